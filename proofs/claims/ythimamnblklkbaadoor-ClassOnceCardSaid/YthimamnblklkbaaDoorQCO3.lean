/- Texts, one behind the other: PCa, PCb, PCc, PCe, PSa, Sx, Rb, Rm, Po, Pop, Rg, Pb, Rn, F0h, F0i, F0j, A0p, A0k, A0q, A0l, A0s, PSb, PSc, K11, PSd. -/
import Derived.Lib.ConvBytes
import Derived.Laws.AppendOwn
import Derived.Test.YthimamnblklkbaaDoorQCO2
set_option linter.unusedVariables false
set_option linter.unusedSimpArgs false
namespace Go.Proofs.YthimamnblklkbaaDoor
open Go Go.RowKit
set_option linter.unusedVariables false
set_option linter.unusedSimpArgs false

variable {img : List Int} {l : List (Int × Int)}
def VJ (img : List Int) (l : List (Int × Int)) : Prop := VR img l ∧ VOk img l
theorem VJ.vput {a x : Int} (h : VJ img l) (hx : U64 x) : VJ img (vput img l a x).2 := by
  unfold Go.Proofs.YthimamnblklkbaaDoor.vput
  split
  · rename_i ha
    cases hl : vlook l a with
    | some y => exact ⟨h.1.put ha hx, h.2.put ha (.inl (by rw [hl]; rfl))⟩
    | none =>
      simp only
      split
      · exact h
      · exact ⟨h.1.put ha hx, h.2.put ha (.inr (by omega))⟩
  · exact h
theorem VJ.vwrite {a x : Int} (h : VJ img l) (hx : U64 x) : VJ img (vwrite img l a x).2 := by
  unfold Go.Proofs.YthimamnblklkbaaDoor.vwrite
  split
  · exact h
  · split
    · exact h
    · exact h.vput hx
theorem VJ.vsets : ∀ {xs : List (Int × Int)} {l : List (Int × Int)}, VJ img l → (∀ p ∈ xs, U64 p.2) → VJ img (vsets img l xs).2
  | [], _, h, _ => h
  | x :: xs, l, h, hx => by
    unfold Go.Proofs.YthimamnblklkbaaDoor.vsets
    split
    · exact VJ.vsets (h.vwrite (hx x (by simp))) fun p hp => hx p (by simp [hp])
    · exact h.vwrite (hx x (by simp))

def thereF (img : List Int) (i k : Int) : Int := if i < 0 then 1 else if i ≥ 4 then 1 else if k < 0 then 1 else if k ≥ 4 then 1 else if (img.length : Int) < sessAt i + 64 then 8 else 0
theorem rthere_eq (img : List Int) (i k : Int) : rthere_M img i k = some (thereF img i k) := by
  unfold rthere_M thereF
  have h := sess_range i
  repeat' split
  all_goals first | rfl | skip
  all_goals rw [need, if_pos (by omega)]
  all_goals first | rfl | (simp only [*, if_true, if_false])
theorem thereF_zero {i k : Int} (h : thereF img i k = 0) : 0 ≤ i ∧ i < 4 ∧ 0 ≤ k ∧ k < 4 ∧ sessAt i = 8 + 64 * i ∧ 72 + 64 * i ≤ (img.length : Int) ∧ slotAt i k = 16 + 64 * i + 12 * k := by
  unfold thereF at h
  have hs := sess_range i
  split at h; · omega
  split at h; · omega
  split at h; · omega
  split at h; · omega
  split at h; · omega
  refine ⟨by omega, by omega, by omega, by omega, by omega, by omega, ?_⟩
  unfold slotAt; rw [if_pos (by omega)]
theorem ssess_eq (img : List Int) (i : Int) : ssess_M img i = some (if thereF img i 0 = 0 then sessAt i else 0, thereF img i 0) := by
  unfold ssess_M thereF
  have h := sess_range i
  by_cases h1 : i < 0
  · rw [if_pos (by omega), if_pos h1, if_neg (by decide)]
  · by_cases h2 : i ≥ 4
    · rw [if_pos (by omega), if_neg h1, if_pos h2, if_neg (by decide)]
    · have e : (if (0 : Int) < 0 then (1 : Int) else if (0 : Int) ≥ 4 then 1 else if (img.length : Int) < sessAt i + 64 then 8 else 0) = if (img.length : Int) < sessAt i + 64 then 8 else 0 := by simp
      rw [if_neg (by omega), need, if_pos (by omega), if_neg h1, if_neg h2, e]
      split <;> simp
theorem sfind_eq (img : List Int) (i k : Int) : ∃ a, sfind_M img i k = some (a, thereF img i k) ∧ (thereF img i k = 0 → a = slotAt i k) := by
  unfold sfind_M
  rw [ssess_eq]
  by_cases h : slotAt i k < 0
  · refine ⟨0, ?_, ?_⟩
    · rw [if_pos h]
      have : thereF img i k = 1 := by
        unfold slotAt at h
        unfold thereF
        split at h
        · omega
        · rename_i hn
          repeat' split
          all_goals first | rfl | skip
          all_goals exact absurd ⟨⟨by omega, by omega⟩, by omega, by omega⟩ hn
      rw [this]
    · intro h0
      have := thereF_zero h0
      omega
  · refine ⟨slotAt i k, ?_, fun _ => rfl⟩
    rw [if_neg h]
    unfold slotAt at h
    split at h
    · rename_i hn
      simp only [Option.bind]
      have e : thereF img i k = thereF img i 0 := by
        unfold thereF
        simp only [show ¬ i < 0 by omega, show ¬ i ≥ 4 by omega, show ¬ k < 0 by omega, show ¬ k ≥ 4 by omega, if_false]
        simp
      rw [e]
    · omega

def getF (img : List Int) (l : List (Int × Int)) (i : Int) : Bool × Int × Int × Int :=
  if thereF img i 0 = 0 then (if vget img l (sessAt i) > 1 then (false, 0, 0, 4) else (decide (vget img l (sessAt i) = 1), vget img l (sessAt i + 1), vget img l (sessAt i + 2), 0)) else (false, 0, 0, thereF img i 0)
theorem sget_eq (img : List Int) (l : List (Int × Int)) (i : Int) : sget_M img l i = some (getF img l i) := by
  unfold sget_M getF
  rw [ssess_eq]
  simp only [Option.bind]
  by_cases h : thereF img i 0 = 0
  · have := thereF_zero h
    rw [if_pos h, if_pos h, if_pos h]
    by_cases h2 : vget img l (sessAt i) > 1
    · rw [if_pos h2, if_pos h2]
    · rw [if_neg h2, if_neg h2, need, if_pos (by omega), need, if_pos (by omega)]
  · rw [if_neg h, if_neg h]
theorem rget10_eq (img : List Int) (l : List (Int × Int)) (i : Int) : rget10_M img l i = some (getF img l i) := by
  unfold rget10_M getF
  rw [rthere_eq]
  simp only [Option.bind]
  by_cases h : thereF img i 0 = 0
  · have := thereF_zero h
    rw [if_pos h, if_pos h]
    by_cases h2 : vget img l (sessAt i) > 1
    · rw [if_pos h2, if_pos h2]
    · rw [if_neg h2, if_neg h2, need, if_pos (by omega), need, if_pos (by omega)]
  · rw [if_neg h, if_neg h]

def putF (img : List Int) (l : List (Int × Int)) (i : Int) (o : Bool) (g k : Int) : Int × List (Int × Int) :=
  if thereF img i 0 = 0 then vsets img l [(sessAt i, if o = true then 1 else 0), (sessAt i + 1, g), (sessAt i + 2, k)] else (thereF img i 0, l)
theorem sput_eq (img : List Int) (l : List (Int × Int)) (i : Int) (o : Bool) (g k : Int) : sput_M img l i o g k = some (putF img l i o g k) := by
  unfold sput_M putF sput_J1
  rw [ssess_eq]
  simp only [Option.bind]
  by_cases h : thereF img i 0 = 0
  · have := thereF_zero h
    rw [if_pos h, if_pos h, if_pos h]
    cases o
    · simp only [Bool.false_eq_true, if_false]
      rw [need, if_pos (by omega), need, if_pos (by omega)]
    · simp only [if_true]
      rw [need, if_pos (by omega), need, if_pos (by omega)]
  · rw [if_neg h, if_neg h]
theorem vwrites_vsets (img : List Int) (at_ : Int) : ∀ (ws : List Int) (l : List (Int × Int)) (i : Int), vwrites img at_ l i ws = vsets img l ((List.range ws.length).map fun (j : Nat) => (at_ + (i + (j : Int)), ws.getD j 0))
  | [], _, _ => rfl
  | x :: xs, l, i => by
    unfold vwrites
    rw [List.length_cons, List.range_succ_eq_map, List.map_cons, List.map_map]
    unfold vsets
    simp only [Int.natCast_zero, Int.add_zero, List.getD_cons_zero]
    split
    · rw [vwrites_vsets img at_ xs]
      congr 1
      refine List.map_congr_left fun j _ => ?_
      simp only [Function.comp, Nat.succ_eq_add_one, List.getD_cons_succ, Int.natCast_add, Int.natCast_one]
      congr 2
      omega
    · rfl
theorem rput10_eq (img : List Int) (l : List (Int × Int)) (i : Int) (o : Bool) (g k : Int) : rput10_M img l i o g k = some (putF img l i o g k) := by
  unfold rput10_M putF rput10_J1
  rw [rthere_eq]
  simp only [Option.bind]
  by_cases h : thereF img i 0 = 0
  · have := thereF_zero h
    rw [if_pos h, if_pos h]
    have e : ∀ p : Int, vwrites img (sessAt i) l 0 [p, g, k] = vsets img l [(sessAt i, p), (sessAt i + 1, g), (sessAt i + 2, k)] := by
      intro p
      rw [vwrites_vsets]
      simp [List.range_succ]
    cases o
    · simp only [Bool.false_eq_true, if_false]
      rw [need, if_pos (by omega), e]
    · simp only [if_true]
      rw [need, if_pos (by omega), e]
  · rw [if_neg h, if_neg h]
theorem VJ.putF {i : Int} {o : Bool} {g k : Int} (h : VJ img l) (hg : U64 g) (hk : U64 k) : VJ img (putF img l i o g k).2 := by
  unfold Go.Proofs.YthimamnblklkbaaDoor.putF
  split
  · refine h.vsets ?_
    intro p hp
    simp only [List.mem_cons, List.not_mem_nil, or_false] at hp
    rcases hp with rfl | rfl | rfl
    · simp only; unfold U64; split <;> omega
    · exact hg
    · exact hk
  · exact h
end Go.Proofs.YthimamnblklkbaaDoor

namespace Go.Proofs.YthimamnblklkbaaDoor
open Go Go.RowKit
set_option linter.unusedVariables false
set_option linter.unusedSimpArgs false

variable {img : List Int} {l : List (Int × Int)}
def bytesF (ws : List Int) (n : Nat) : List Int := (List.range n).map fun (j : Nat) => shrK .u64 (ws.getD (j / 8) 0) (8 * ((j % 8 : Nat) : Int)) % 256
theorem bytesF_succ (ws : List Int) (n : Nat) : bytesF ws (n + 1) = bytesF ws n ++ [shrK .u64 (ws.getD (n / 8) 0) (8 * ((n % 8 : Nat) : Int)) % 256] := by
  unfold bytesF
  rw [List.range_succ, List.map_append]
  rfl
theorem bytesF_len (ws : List Int) (n : Nat) : (bytesF ws n).length = n := by unfold bytesF; simp
theorem quo8 {p : Int} (h : 0 ≤ p) : p.tdiv 8 = p / 8 := Int.tdiv_eq_ediv_of_nonneg h
theorem rem8 {p : Int} (h : 0 ≤ p) : p.tmod 8 = p % 8 := Int.tmod_eq_emod_of_nonneg h
theorem runpack_eq {ws : List Int} {n : Int} (h0 : 0 ≤ n) (hn : n ≤ 8 * (ws.length : Int)) (hl : ws.length ≤ 1000) : runpack_M ws n = some (strOfNums (bytesF ws n.toNat), 0) := by
  unfold runpack_M
  rw [if_neg (by omega), need, if_pos (by omega), if_neg (by omega)]
  refine iter_run (fun s => 0 ≤ s.2 ∧ s.2 ≤ n ∧ s.1 = bytesF ws s.2.toNat) (fun s => (n - s.2).toNat) ?_ _ _ ⟨by simp, by simp; omega, rfl⟩ (fuel_lt (by simp only; omega))
  rintro k ⟨q, p⟩ ⟨h1, h2, h3⟩ ih
  simp only at h1 h2 h3 ih
  subst h3
  unfold runpack_B0
  simp only
  by_cases h : p < n
  · rw [if_pos h, quo8 h1, rem8 h1, bytesF_len]
    refine need_of (by omega) (need_of (by omega) (need_of (by omega) (need_of (by omega) (need_of (by omega) (need_of (by omega) (need_of (by omega) (ih _ ⟨by simp only; omega, by simp only; omega, ?_⟩ (by simp only; omega))))))))
    simp only
    rw [show (p + 1).toNat = p.toNat + 1 by omega, bytesF_succ, show (p / 8).toNat = p.toNat / 8 by omega, show ((p.toNat % 8 : Nat) : Int) = p % 8 by omega]
  · rw [if_neg h, show p = n by omega]
theorem unpack_eq {ws : List Int} {n : Int} (h0 : 0 ≤ n) (hn : n ≤ 8 * (ws.length : Int)) (hl : ws.length ≤ 1000) : unpack_M ws n = some (strOfNums (bytesF ws n.toNat), 0) := by
  unfold unpack_M
  rw [if_neg (by omega), need, if_pos (by omega), if_neg (by omega), need, if_pos (by omega)]
  refine iter_run (fun s => 0 ≤ s.2 ∧ s.2 ≤ n ∧ s.1.length = n.toNat ∧ s.1.take s.2.toNat = bytesF ws s.2.toNat) (fun s => (n - s.2).toNat) ?_ _ _ ⟨by simp, by simp; omega, by simp, rfl⟩ (fuel_lt (by simp only; omega))
  rintro k ⟨q, p⟩ ⟨h1, h2, h3, h4⟩ ih
  simp only at h1 h2 h3 h4 ih
  unfold unpack_B0
  simp only
  by_cases h : p < n
  · rw [if_pos (by omega), quo8 h1, rem8 h1]
    refine need_of (by omega) (need_of (by omega) (need_of (by omega) (need_of (by omega) (need_of (by omega) (need_of (by omega) (need_of (by omega) (ih _ ⟨by simp only; omega, by simp only; omega, by simp only [List.length_set]; exact h3, ?_⟩ (by simp only; omega))))))))
    simp only
    rw [show (p + 1).toNat = p.toNat + 1 by omega, bytesF_succ, ← h4, show (p / 8).toNat = p.toNat / 8 by omega, show ((p.toNat % 8 : Nat) : Int) = p % 8 by omega]
    have hlt : p.toNat < q.length := by omega
    rw [List.take_add_one, List.take_set_of_le (Nat.le_refl _)]
    simp [hlt]
  · rw [if_neg (by omega)]
    refine need_of (by omega) ?_
    have e : p = n := by omega
    subst e
    rw [List.take_of_length_le (by omega)] at h4
    rw [h4]

def loadF (img : List Int) (l : List (Int × Int)) (i k : Int) : Int × Int × Int × Int × ByteArray × Int :=
  if thereF img i k = 0 then
    if vget img l (slotAt i k) = 0 then (0, 0, 0, 0, ByteArray.empty, 0)
    else if (vget img l (slotAt i k + 1)).tmod 256 > 24 then (0, 0, 0, 0, ByteArray.empty, 4)
    else if (vget img l (slotAt i k + 1)).tdiv 256 > 64 then (0, 0, 0, 0, ByteArray.empty, 4)
    else (vget img l (slotAt i k), (vget img l (slotAt i k + 1)).tmod 256, vget img l (slotAt i k + 2), vget img l (slotAt i k + 3),
      strOfNums (bytesF [vget img l (slotAt i k + 4), vget img l (slotAt i k + 5), vget img l (slotAt i k + 6), vget img l (slotAt i k + 7), vget img l (slotAt i k + 8), vget img l (slotAt i k + 9), vget img l (slotAt i k + 10), vget img l (slotAt i k + 11)] ((vget img l (slotAt i k + 1)).tdiv 256).toNat), 0)
  else (0, 0, 0, 0, ByteArray.empty, thereF img i k)
theorem mod256 {w : Int} (h : U64 w) : w.tmod 256 = w % 256 ∧ w.tdiv 256 = w / 256 := ⟨Int.tmod_eq_emod_of_nonneg h.1, Int.tdiv_eq_ediv_of_nonneg h.1⟩
theorem sload_eq (hv : VR img l) (i k : Int) : sload_M img l i k = some (loadF img l i k) := by
  unfold sload_M
  obtain ⟨a, e, ha⟩ := sfind_eq img i k
  rw [e]
  simp only [Option.bind]
  unfold loadF
  by_cases h : thereF img i k = 0
  · have ht := thereF_zero h
    rw [if_pos h, if_pos h, ha h]
    unfold sload_J1
    by_cases h2 : vget img l (slotAt i k) = 0
    · rw [if_pos h2, if_pos (by simp [h2]), h]
    · rw [if_neg h2, if_neg (by simp [h2])]
      have hw := hv (slotAt i k + 1)
      have hm := mod256 hw
      have hw' : 0 ≤ vget img l (slotAt i k + 1) ∧ vget img l (slotAt i k + 1) < 18446744073709551616 := hw
      generalize vget img l (slotAt i k + 1) = x at *
      refine need_of (by omega) (need_of (by omega) (need_of (by omega) ?_))
      simp only [Option.bind]
      unfold sload_J2
      by_cases h3 : x.tmod 256 > 24
      · rw [if_pos h3, if_pos h3, if_pos rfl]
      · rw [if_neg h3, if_neg h3]
        by_cases h4 : x.tdiv 256 > 64
        · rw [if_pos h4, if_pos (by simp [h4])]
        · rw [if_neg h4, if_neg (by simp [h4])]
          have hu := unpack_eq (ws := [vget img l (slotAt i k + 4), vget img l (slotAt i k + 5), vget img l (slotAt i k + 6), vget img l (slotAt i k + 7), vget img l (slotAt i k + 8), vget img l (slotAt i k + 9), vget img l (slotAt i k + 10), vget img l (slotAt i k + 11)]) (n := x.tdiv 256) (by omega) (by simp only [List.length_cons, List.length_nil]; omega) (by simp)
          rw [hu]
          simp only [Option.bind]
          refine need_of (by omega) (need_of (by omega) (need_of (by omega) (need_of (by omega) (need_of (by omega) (need_of (by omega) (need_of (by omega) (need_of (by omega) (need_of (by omega) ?_))))))))
          rw [if_pos trivial]
          exact need_of (by omega) (need_of (by omega) (need_of (by omega) rfl))
  · rw [if_neg h, if_neg h]
    unfold sload_J1
    rw [if_pos rfl]
theorem rload_eq (hv : VR img l) (i k : Int) : rload_M img l i k = some (loadF img l i k) := by
  unfold rload_M
  rw [rthere_eq]
  simp only [Option.bind]
  unfold loadF
  by_cases h : thereF img i k = 0
  · have ht := thereF_zero h
    rw [if_pos h, if_pos h]
    by_cases h2 : vget img l (slotAt i k) = 0
    · rw [if_pos h2, if_pos h2]
    · rw [if_neg h2, if_neg h2]
      have hw := hv (slotAt i k + 1)
      have hm := mod256 hw
      have hw' : 0 ≤ vget img l (slotAt i k + 1) ∧ vget img l (slotAt i k + 1) < 18446744073709551616 := hw
      generalize vget img l (slotAt i k + 1) = x at *
      refine need_of (by omega) ?_
      unfold rload_J1
      by_cases h3 : x.tmod 256 > 24
      · rw [if_pos h3, if_pos h3, if_pos rfl]
      · rw [if_neg h3, if_neg h3]
        refine need_of (by omega) ?_
        by_cases h4 : x.tdiv 256 > 64
        · rw [if_pos h4, if_pos (by simp [h4])]
        · rw [if_neg h4, if_neg (by simp [h4])]
          have hu := runpack_eq (ws := [vget img l (slotAt i k + 4), vget img l (slotAt i k + 5), vget img l (slotAt i k + 6), vget img l (slotAt i k + 7), vget img l (slotAt i k + 8), vget img l (slotAt i k + 9), vget img l (slotAt i k + 10), vget img l (slotAt i k + 11)]) (n := x.tdiv 256) (by omega) (by simp only [List.length_cons, List.length_nil]; omega) (by simp)
          have ea : ∀ j : Int, slotAt i k + 4 + j = slotAt i k + (4 + j) := fun j => Int.add_assoc _ _ _
          simp only [ea] 
          simp only [show (4 : Int) + 0 = 4 from rfl, show (4 : Int) + 1 = 5 from rfl, show (4 : Int) + 2 = 6 from rfl, show (4 : Int) + 3 = 7 from rfl, show (4 : Int) + 4 = 8 from rfl, show (4 : Int) + 5 = 9 from rfl, show (4 : Int) + 6 = 10 from rfl, show (4 : Int) + 7 = 11 from rfl]
          rw [hu]
          simp only [Option.bind]
          repeat refine need_of (by omega) ?_
          rfl
  · rw [if_neg h, if_neg h]

def wipeL (i : Int) : List (Int × Int) := [(slotAt i 0, 0), (slotAt i 1, 0), (slotAt i 2, 0), (slotAt i 3, 0), (descAt i 0, 0), (descAt i 0 + 1, 0), (descAt i 1, 0), (descAt i 1 + 1, 0), (descAt i 2, 0), (descAt i 2 + 1, 0), (descAt i 3, 0), (descAt i 3 + 1, 0)]
def wipeF (img : List Int) (l : List (Int × Int)) (i : Int) : Int × List (Int × Int) :=
  if thereF img i 0 = 0 then vsets img l (wipeL i) else (thereF img i 0, l)
theorem desc_range (i k : Int) : -1 ≤ descAt i k ∧ descAt i k ≤ 1000 := by
  unfold descAt; split <;> omega
theorem swipe_eq (img : List Int) (l : List (Int × Int)) (i : Int) : swipe_M img l i = some (wipeF img l i) := by
  unfold swipe_M wipeF wipeL
  rw [ssess_eq]
  simp only [Option.bind]
  have h0 := desc_range i 0
  have h1 := desc_range i 1
  have h2 := desc_range i 2
  have h3 := desc_range i 3
  by_cases h : thereF img i 0 = 0
  · rw [if_pos h, if_pos h]
    exact need_of (by omega) (need_of (by omega) (need_of (by omega) (need_of (by omega) rfl)))
  · rw [if_neg h, if_neg h]
theorem vsets_cons (img : List Int) (x : Int × Int) (xs l : List (Int × Int)) : vsets img l (x :: xs) = if (vwrite img l x.1 x.2).1 = 0 then vsets img (vwrite img l x.1 x.2).2 xs else vwrite img l x.1 x.2 := by rw [vsets]
theorem vsets_append (img : List Int) : ∀ (xs ys : List (Int × Int)) (l : List (Int × Int)), vsets img l (xs ++ ys) = if (vsets img l xs).1 = 0 then vsets img (vsets img l xs).2 ys else vsets img l xs
  | [], _, _ => rfl
  | x :: xs, ys, l => by
    rw [List.cons_append, vsets_cons, vsets_cons]
    by_cases h : (vwrite img l x.1 x.2).1 = 0
    · rw [if_pos h, if_pos h, vsets_append img xs ys]
    · rw [if_neg h, if_neg h, if_neg h]
theorem VJ.wipeF {i : Int} (h : VJ img l) : VJ img (wipeF img l i).2 := by
  unfold Go.Proofs.YthimamnblklkbaaDoor.wipeF
  split
  · refine h.vsets ?_
    intro p hp
    unfold wipeL at hp
    simp only [List.mem_cons, List.not_mem_nil, or_false] at hp
    rcases hp with rfl | rfl | rfl | rfl | rfl | rfl | rfl | rfl | rfl | rfl | rfl | rfl <;> exact u64_zero
  · exact h
theorem wipeL_drop (i : Int) {j : Int} (h : 0 ≤ j ∧ j < 4) : (wipeL i).drop j.toNat = (slotAt i j, 0) :: (wipeL i).drop (j + 1).toNat := by
  have : j = 0 ∨ j = 1 ∨ j = 2 ∨ j = 3 := by omega
  rcases this with rfl | rfl | rfl | rfl <;> rfl
theorem wipeL_drop2 (i : Int) {j : Int} (h : 0 ≤ j ∧ j < 4) : (wipeL i).drop (4 + 2 * j.toNat) = [(descAt i j, 0), (descAt i j + 1, 0)] ++ (wipeL i).drop (4 + 2 * (j + 1).toNat) := by
  have : j = 0 ∨ j = 1 ∨ j = 2 ∨ j = 3 := by omega
  rcases this with rfl | rfl | rfl | rfl <;> rfl
theorem rwipe10_eq (img : List Int) (l : List (Int × Int)) (i : Int) : rwipe10_M img l i = some (wipeF img l i) := by
  unfold rwipe10_M
  rw [rthere_eq]
  simp only [Option.bind]
  have J : ∀ (m : List (Int × Int)) (p : Int), (if p = 0 then vsets img m ((wipeL i).drop 4) else (p, m)) = wipeF img l i → rwipe10_J1 img i m p = some (wipeF img l i) := by
    intro m p hm
    unfold rwipe10_J1
    refine iter_run (fun s => 0 ≤ s.2.2 ∧ s.2.2 ≤ 4 ∧ (if s.2.1 = 0 then vsets img s.1 ((wipeL i).drop (4 + 2 * s.2.2.toNat)) else (s.2.1, s.1)) = wipeF img l i) (fun s => (4 - s.2.2).toNat) ?_ _ _ ⟨by simp, by simp, hm⟩ (fuel_lt (by simp only; omega))
    rintro k ⟨m, p, j⟩ ⟨h1, h2, h3⟩ ih
    simp only at h1 h2 h3 ih
    unfold rwipe10_B1
    simp only
    by_cases h : j < 4
    · rw [if_pos h]
      by_cases hp : p = 0
      · rw [if_pos hp] at h3 ⊢
        have hd := desc_range i j
        refine need_of (by omega) ?_
        simp only [Option.bind]
        refine need_of (by omega) ?_
        refine ih _ ⟨by simp only; omega, by simp only; omega, ?_⟩ (by simp only; omega)
        simp only
        rw [wipeL_drop2 i ⟨h1, h⟩, vsets_append] at h3
        have e : vwrites img (descAt i j) m 0 [0, 0] = vsets img m [(descAt i j, 0), (descAt i j + 1, 0)] := by
          rw [vwrites_vsets]; simp [List.range_succ]
        rw [e]
        exact h3
      · rw [if_neg hp] at h3 ⊢
        rw [h3]
    · rw [if_neg h]
      have e : j = 4 := by omega
      subst e
      by_cases hp : p = 0
      · subst hp
        rw [if_pos rfl] at h3
        rw [← h3]
        rfl
      · rw [if_neg hp] at h3
        rw [h3]
  refine iter_run (fun s => 0 ≤ s.2.2 ∧ s.2.2 ≤ 4 ∧ (if s.2.1 = 0 then vsets img s.1 ((wipeL i).drop s.2.2.toNat) else (s.2.1, s.1)) = wipeF img l i) (fun s => (4 - s.2.2).toNat) ?_ _ _ ⟨by simp, by simp, ?_⟩ (fuel_lt (by simp only; omega))
  · rintro k ⟨m, p, j⟩ ⟨h1, h2, h3⟩ ih
    simp only at h1 h2 h3 ih
    unfold rwipe10_B0
    simp only
    by_cases h : j < 4
    · rw [if_pos h]
      by_cases hp : p = 0
      · rw [if_pos hp] at h3 ⊢
        simp only [Option.bind]
        refine need_of (by omega) ?_
        refine ih _ ⟨by simp only; omega, by simp only; omega, ?_⟩ (by simp only; omega)
        simp only
        rw [wipeL_drop i ⟨h1, h⟩] at h3
        exact h3
      · rw [if_neg hp] at h3 ⊢
        exact J m p (by rw [if_neg hp]; exact h3)
    · rw [if_neg h]
      have e : j = 4 := by omega
      subst e
      exact J m p h3
  · simp only
    rfl
end Go.Proofs.YthimamnblklkbaaDoor

namespace Go.Proofs.YthimamnblklkbaaDoor
open Go Go.RowKit
set_option linter.unusedVariables false
set_option linter.unusedSimpArgs false

variable {img : List Int} {l : List (Int × Int)}
theorem cmay_eq (q t : Int) : cmay_M q t = some (if q < t ∨ q > 1099511627776 then 1 else 0) := by
  unfold cmay_M
  by_cases h : q < t
  · rw [if_pos h, if_pos h, if_pos (Or.inl h)]
  · by_cases h2 : q > 1099511627776
    · rw [if_neg h, if_pos h2, if_pos (Or.inr h2)]
    · rw [if_neg h, if_neg h2, if_neg (by omega)]
theorem copened_eq (img : List Int) (l : List (Int × Int)) (i g : Int) : copened_M img l i g = ropened_M img l i g := by
  unfold copened_M ropened_M
  rw [sget_eq, rget10_eq]
  rfl
def openedF (img : List Int) (l : List (Int × Int)) (i g : Int) : Bool × Int × Int × Int :=
  ((getF img l i).1, (getF img l i).2.1, (getF img l i).2.2.1, if (getF img l i).2.2.2 = 0 then (if (getF img l i).1 = true then (if (getF img l i).2.1 = g then 0 else 22) else 22) else (getF img l i).2.2.2)
theorem ropened_eq (img : List Int) (l : List (Int × Int)) (i g : Int) : ropened_M img l i g = some (openedF img l i g) := by
  unfold ropened_M openedF ropened_J1
  rw [rget10_eq]
  simp only [Option.bind]
  generalize getF img l i = x
  by_cases h : x.2.2.2 = 0
  · rw [if_pos h, if_pos h, h]
    by_cases h1 : x.1 = true
    · rw [if_pos h1, if_pos h1]
      by_cases h2 : x.2.1 = g
      · rw [if_pos h2, if_pos h2]
      · rw [if_neg h2, if_neg h2]
    · rw [if_neg h1, if_neg h1]
  · rw [if_neg h, if_neg h]
theorem cof_eq (hv : VR img l) (i g q : Int) : cof_M img l i g q = rof_M img l i g q := by
  unfold cof_M rof_M
  rw [cmay_eq]
  simp only [Option.bind]
  by_cases h : q < 1
  · rw [if_pos (Or.inl h), if_neg (by decide), if_pos h]; rfl
  · by_cases h2 : q > 1099511627776
    · rw [if_pos (Or.inr h2), if_neg (by decide), if_neg h, decide_eq_true h2]; rfl
    · rw [if_neg (show ¬ (q < 1 ∨ q > 1099511627776) by omega), if_pos rfl, if_neg h, decide_eq_false h2]
      unfold rof_J1
      rw [if_neg (by decide), copened_eq, ropened_eq]
      simp only [Option.bind]
      generalize openedF img l i g = x
      by_cases h3 : x.2.2.2 = 0
      · rw [if_pos h3, if_pos h3]
        by_cases h4 : q ≤ x.2.2.1
        · rw [if_pos h4, if_pos h4]
        · rw [if_neg h4, if_neg h4]
          by_cases h5 : (q - x.2.2.1) % 18446744073709551616 > 4
          · rw [if_pos h5, if_pos h5]
          · rw [if_neg h5, if_neg h5, sload_eq hv, rload_eq hv]
            simp only [Option.bind]
            generalize loadF img l i (q.tmod 4) = y
            unfold cof_J1
            by_cases h6 : y.2.2.2.2.2 = 0
            · by_cases h7 : y.1 = q
              · simp [h6, h7]
              · simp [h6, h7]
            · simp [h6]
      · rw [if_neg h3, if_neg h3]
theorem cackJ_eq (img : List Int) (l : List (Int × Int)) (i : Int) (r : Bool × Int × Int × Int) (p : Int) : cack_J1 img l i r p = rack_J1 img l i r p := by
  unfold cack_J1 rack_J1
  rw [sput_eq, rput10_eq]
theorem cackB_eq (hv : VR img l) (i q : Int) (r : Bool × Int × Int × Int) (k : Int → Option (Int × Int × List (Int × Int))) (p : Int) : cack_B0 img l i q r k p = rack_B0 img l i q r k p := by
  unfold cack_B0 rack_B0
  rw [cackJ_eq]
  simp only [Option.bind]
  rw [sload_eq hv, rload_eq hv]
theorem cack_eq (hv : VR img l) (i g : Int) {q : Int} (hq : 0 ≤ q) : cack_M img l i g q = rack_M img l i g q := by
  unfold cack_M rack_M
  rw [cmay_eq]
  simp only [Option.bind]
  by_cases h2 : q > 1099511627776
  · rw [if_pos (Or.inr h2), if_neg (by decide), if_pos h2]
  · rw [if_neg (show ¬ (q < 0 ∨ q > 1099511627776) by omega), if_pos rfl, if_neg h2, copened_eq]
    simp only [cackB_eq hv]
theorem getF_u64 (hv : VR img l) (i : Int) : U64 (getF img l i).2.1 ∧ U64 (getF img l i).2.2.1 := by
  unfold getF
  split
  · split
    · exact ⟨u64_zero, u64_zero⟩
    · exact ⟨hv _, hv _⟩
  · exact ⟨u64_zero, u64_zero⟩
theorem copen_eq (hv : VR img l) (i g : Int) : copen_M img l i g = ropen_M img l i g := by
  unfold copen_M ropen_M
  rw [cmay_eq, sget_eq, rget10_eq]
  simp only [Option.bind]
  by_cases h : g < 1
  · rw [if_pos (Or.inl h), if_neg (by decide), if_pos h]
  · by_cases h2 : g > 1099511627776
    · rw [if_pos (Or.inr h2), if_neg (by decide), if_neg h, if_pos h2]
    · rw [if_neg (show ¬ (g < 1 ∨ g > 1099511627776) by omega), if_pos rfl, if_neg h, if_neg h2]
      have hu := (getF_u64 hv i).1
      generalize getF img l i = x at *
      obtain ⟨o, n, m, e⟩ := x
      simp only at hu ⊢
      unfold U64 at hu
      have eJ : copen_J1 img l i g = ((rput10_M img l i true g 0).bind fun r37 => if r37.1 = 0 then ((rwipe10_M img r37.2 i).bind fun r46 => some (0, r46.1, r46.2)) else (some (0, r37.1, r37.2))) := by
        unfold copen_J1
        rw [sput_eq, rput10_eq]
        simp only [Option.bind, swipe_eq, rwipe10_eq]
      unfold copen_J2 ropen_J1
      rw [eJ]
      by_cases h3 : e = 0
      · simp only [h3, if_true]
        cases o
        · simp only [Bool.false_eq_true, if_false]
          by_cases h4 : g ≤ n
          · rw [if_pos h4, if_pos h4]
          · rw [if_neg h4, if_neg h4]
            by_cases h5 : (g - n) % 18446744073709551616 = 1
            · rw [if_pos h5, if_neg (by omega)]
            · rw [if_neg h5, if_pos (by omega)]
        · simp only [if_true, decide_eq_true_eq]
      · simp only [h3, if_false]
end Go.Proofs.YthimamnblklkbaaDoor

namespace Go.Proofs.YthimamnblklkbaaDoor
open Go Go.RowKit
set_option linter.unusedVariables false
set_option linter.unusedSimpArgs false

variable {img : List Int} {l : List (Int × Int)}
theorem thereF_in {i k : Int} (hi : 0 ≤ i ∧ i < 4) (hk : 0 ≤ k ∧ k < 4) (hl : 264 ≤ (img.length : Int)) : thereF img i k = 0 := by
  unfold thereF
  have := sess_range i
  rw [if_neg (by omega), if_neg (by omega), if_neg (by omega), if_neg (by omega), if_neg (by omega)]
theorem getF_in {i : Int} {o : Bool} (h0 : thereF img i 0 = 0) (h1 : vget img l (sessAt i) = if o = true then 1 else 0) : getF img l i = (o, vget img l (sessAt i + 1), vget img l (sessAt i + 2), 0) := by
  unfold getF
  rw [if_pos h0, h1]
  cases o <;> rfl
theorem rof_in (hv : VR img l) {i g q : Int} (h0 : thereF img i 0 = 0) (h1 : vget img l (sessAt i) = 1) (h2 : vget img l (sessAt i + 1) = g) (hq : 1 ≤ q ∧ q ≤ 1099511627776) :
    rof_M img l i g q = some (if q ≤ vget img l (sessAt i + 2) then (2, 0, 0, 0, ByteArray.empty, 0) else if (q - vget img l (sessAt i + 2)) % 18446744073709551616 > 4 then (3, 0, 0, 0, ByteArray.empty, 0) else
      if (loadF img l i (q.tmod 4)).2.2.2.2.2 = 0 then (if (loadF img l i (q.tmod 4)).1 = q then (1, (loadF img l i (q.tmod 4)).2.1, (loadF img l i (q.tmod 4)).2.2.1, (loadF img l i (q.tmod 4)).2.2.2.1, (loadF img l i (q.tmod 4)).2.2.2.2.1, 0) else (0, 0, 0, 0, ByteArray.empty, 0)) else (0, 0, 0, 0, ByteArray.empty, (loadF img l i (q.tmod 4)).2.2.2.2.2)) := by
  have hg := getF_in (o := true) h0 (by rw [h1]; rfl)
  have h4 := Int.tmod_eq_emod_of_nonneg (a := q) (b := 4) (by omega)
  unfold rof_M
  rw [if_neg (by omega), decide_eq_false (by omega)]
  unfold rof_J1
  rw [if_neg (by decide), ropened_eq]
  unfold openedF
  rw [hg]
  simp only [Option.bind, if_true, h2]
  by_cases h5 : q ≤ vget img l (sessAt i + 2)
  · rw [if_pos h5, if_pos h5]
  · rw [if_neg h5, if_neg h5]
    by_cases h6 : (q - vget img l (sessAt i + 2)) % 18446744073709551616 > 4
    · rw [if_pos h6, if_pos h6]
    · rw [if_neg h6, if_neg h6]
      refine need_of (by omega) ?_
      rw [rload_eq hv]
      simp only [Option.bind]
      by_cases h7 : (loadF img l i (q.tmod 4)).2.2.2.2.2 = 0
      · rw [if_pos h7, if_pos h7]
        by_cases h8 : (loadF img l i (q.tmod 4)).1 = q
        · rw [if_pos h8, if_pos h8]
        · rw [if_neg h8, if_neg h8]
      · rw [if_neg h7, if_neg h7]
end Go.Proofs.YthimamnblklkbaaDoor

namespace Go.Proofs.YthimamnblklkbaaDoor
open Go Go.RowKit
set_option linter.unusedVariables false
set_option linter.unusedSimpArgs false

variable {img : List Int} {l : List (Int × Int)}
def said (k : Int) : List (Int × Int) → Int → Int
  | [], d => d
  | p :: ps, d => said k ps (if k = p.1 then p.2 else d)
theorem said_out {k : Int} : ∀ {ps : List (Int × Int)} {d : Int}, (∀ p ∈ ps, ¬ k = p.1) → said k ps d = d
  | [], _, _ => rfl
  | p :: ps, d, h => by
    unfold said
    rw [if_neg (h p (by simp))]
    exact said_out fun q hq => h q (by simp [hq])
theorem vwrite_in (hv : VJ img l) {a x : Int} (ha : 0 ≤ a ∧ a < (img.length : Int)) (hx : U64 x) (hl : l.length < 96) :
    ∃ m, vwrite img l a x = (0, m) ∧ VJ img m ∧ m.length ≤ l.length + 1 ∧ ∀ k, vget img m k = if k = a then x else vget img l k := by
  unfold vwrite
  rw [if_neg (by omega)]
  by_cases h : vget img l a = x
  · rw [if_pos h]
    refine ⟨l, rfl, hv, by omega, fun k => ?_⟩
    by_cases hk : k = a
    · rw [if_pos hk, hk, h]
    · rw [if_neg hk]
  · rw [if_neg h, vput_in ha hl]
    have hlen := vput_len img l a x
    rw [vput_in ha hl] at hlen
    exact ⟨_, rfl, ⟨hv.1.put ha hx, hv.2.put ha (.inr hl)⟩, hlen, fun k => vget_vset ha⟩
theorem vsets_in : ∀ (xs : List (Int × Int)) (l : List (Int × Int)), VJ img l → (∀ p ∈ xs, (0 ≤ p.1 ∧ p.1 < (img.length : Int)) ∧ U64 p.2) → l.length + xs.length ≤ 96 →
    ∃ m, vsets img l xs = (0, m) ∧ VJ img m ∧ m.length ≤ l.length + xs.length ∧ ∀ k, vget img m k = said k xs (vget img l k)
  | [], l, hv, _, _ => ⟨l, rfl, hv, by simp, fun k => rfl⟩
  | x :: xs, l, hv, hx, hl => by
    simp only [List.length_cons] at hl
    obtain ⟨m, e, hm, hlen, hg⟩ := vwrite_in hv (hx x (by simp)).1 (hx x (by simp)).2 (by omega)
    obtain ⟨m2, e2, hm2, hlen2, hg2⟩ := vsets_in xs m hm (fun p hp => hx p (by simp [hp])) (by omega)
    refine ⟨m2, ?_, hm2, by simp only [List.length_cons]; omega, fun k => ?_⟩
    · rw [vsets_cons, e]
      exact e2
    · rw [hg2, hg]; rfl
theorem putF_in (hv : VJ img l) {i : Int} {o : Bool} {g k : Int} (h0 : thereF img i 0 = 0) (hg : U64 g) (hk : U64 k) (hl : l.length + 3 ≤ 96) :
    ∃ m, putF img l i o g k = (0, m) ∧ VJ img m ∧ m.length ≤ l.length + 3 ∧ ∀ j, vget img m j = said j [(sessAt i, if o = true then 1 else 0), (sessAt i + 1, g), (sessAt i + 2, k)] (vget img l j) := by
  have ht := thereF_zero h0
  unfold putF
  rw [if_pos h0]
  refine vsets_in _ l hv ?_ (by simpa using hl)
  intro p hp
  simp only [List.mem_cons, List.not_mem_nil, or_false] at hp
  rcases hp with rfl | rfl | rfl
  · refine ⟨by simp only; omega, ?_⟩; simp only; unfold U64; split <;> omega
  · exact ⟨by simp only; omega, hg⟩
  · exact ⟨by simp only; omega, hk⟩
theorem wipeL_in {i : Int} (hi : 0 ≤ i ∧ i < 4) : ∀ p ∈ wipeL i, (16 + 64 * i ≤ p.1 ∧ p.1 < 72 + 64 * i) ∧ p.2 = 0 := by
  intro p hp
  have a : ∀ k : Int, 0 ≤ k ∧ k < 4 → slotAt i k = 16 + 64 * i + 12 * k := by intro k hk; unfold slotAt; rw [if_pos (by omega)]
  have b : ∀ k : Int, 0 ≤ k ∧ k < 4 → descAt i k = 64 + 64 * i + 2 * k := by intro k hk; unfold descAt; rw [if_pos (by omega)]
  have a0 := a 0 (by omega)
  have a1 := a 1 (by omega)
  have a2 := a 2 (by omega)
  have a3 := a 3 (by omega)
  have b0 := b 0 (by omega)
  have b1 := b 1 (by omega)
  have b2 := b 2 (by omega)
  have b3 := b 3 (by omega)
  unfold wipeL at hp
  simp only [List.mem_cons, List.not_mem_nil, or_false] at hp
  rcases hp with rfl | rfl | rfl | rfl | rfl | rfl | rfl | rfl | rfl | rfl | rfl | rfl <;> exact ⟨by simp only; omega, rfl⟩
end Go.Proofs.YthimamnblklkbaaDoor

namespace Go.Proofs.YthimamnblklkbaaDoor
open Go Go.RowKit
set_option linter.unusedVariables false
@[simp] theorem beq_bytes (a b : ByteArray) : ((a == b) = true) ↔ a = b := by
  constructor
  · intro h
    cases a with | mk x => cases b with | mk y =>
    have : (x == y) = true := h
    rw [beq_iff_eq.1 this]
  · rintro rfl
    cases a with | mk x => exact (show (x == x) = true from beq_self_eq_true x)
@[simp] theorem beq_bytes_false (a b : ByteArray) : ((a == b) = false) ↔ ¬ (a = b) := by
  rw [← beq_bytes, Bool.not_eq_true]
section
variable {P : Program} {ops : Array Oper} {i : Nat} {s : Fs} {w : World}
def sbyte (s : ByteArray) (k : Int) : Int := (((s[k.toNat]?).getD 0).toNat : Int)
def strIdxQ (P : Program) (ops : Array Oper) (i : Nat) (s : Fs) : Option (ByteArray × Int) :=
  match opQ ops i s with
  | some o => match o.op with
    | .index t x y => match P.underlying t, evS s x, evS s y with
      | some .string, .string b, .int _ k => some (b, k)
      | _, _, _ => none
    | _ => none
  | none => none
theorem runs_strIdx {b : ByteArray} {k : Int} (hk : 0 ≤ k ∧ k < (b.size : Int)) (hq : strIdxQ P ops i s = some (b, k)) : RunsTo P ops i s w (.int .u8 (sbyte b k)) w := by
  unfold strIdxQ at hq
  split at hq
  · rename_i o ho
    split at hq
    · rename_i t x y hop
      refine ⟨_, ho, ?_⟩
      split at hq
      · rename_i b' kk k' hu hx hy
        simp only [Option.some.injEq, Prod.mk.injEq] at hq
        obtain ⟨rfl, rfl⟩ := hq
        have hun := run_underlying (P := P) hu w
        have hn : k'.toNat < b'.size := by omega
        have hg : b'[k'.toNat]? = some b'[k'.toNat] := getElem?_pos b' _ hn
        simp only [execOp, hop, hx, hy, Instr.index, asIntOf, Sem.run_bind, Sem.run_pure, Result.andThen_ok, hun, if_pos hk.1, hg, sbyte, Option.getD_some]
      · cases hq
    · cases hq
  · cases hq
end
section
variable {α : Type} (K : Kind α) {M : Bool} {P : Program} {ops : Array Oper} {i : Nat} {s : Fs} {w : World} {Q : Fs → World → Prop} {B : Nat} {w0 : World} {l0 : List Nat} {H R : List Asn}
theorem ops_appendKn {bytes : Nat} {a a' : Option Addr} {c c' n n' : Nat} {l m : List α} (hs : St B w0 l0 w (K.row a c l :: R)) (hn : n = l.length) (hn' : n' = m.length) (hq : appQ P ops i s K.e = some ((a, n, c), (a', n', c'), K.size, bytes))
    (hc : a' = none → c' = 0) (hm : CellsAt a' (K.cells m) w) (h63 : l.length + m.length ≤ maxLen) (hb : (l.length + m.length) * bytes ≤ 140737488355328)
    (hk : ∀ a'' c'' w', St B w0 l0 w' (K.row a'' c'' (l ++ m) :: R) → OpsAt M P ops (i + 1) (putS s (dstOf ops i) (.slice a'' (l ++ m).length c'')) w' Q) : OpsAt M P ops i s w Q := by
  subst hn hn'
  exact ops_appendK K hs hq hc hm h63 hb hk
end
end Go.Proofs.YthimamnblklkbaaDoor

namespace Go.Proofs.YthimamnblklkbaaDoor
open Go Go.RowKit
set_option linter.unusedVariables false

def strNums (s : ByteArray) : List Int := s.data.toList.map fun b => (b.toNat : Int)
theorem strNums_len (s : ByteArray) : (strNums s).length = s.size := by simp [strNums]
section
variable {M : Bool} {P : Program} {ops : Array Oper} {i : Nat} {s : Fs} {w : World} {K : Fs → World → Prop}
def strBytesQ (P : Program) (ops : Array Oper) (i : Nat) (s : Fs) : Option (ByteArray × TypeId) :=
  match opQ ops i s with
  | some o => match o.op with
    | .convert src dst x => match P.underlying src, P.underlying dst, evS s x with
      | some .string, some (.slice e), .string b => match P.underlying e with
        | some (.int .u8) => some (b, e)
        | _ => none
      | _, _, _ => none
    | _ => none
  | none => none
theorem ops_strBytes {B : Nat} {w0 : World} {l0 : List Nat} {R : List Asn} {b : ByteArray} {e : TypeId} (hs : St B w0 l0 w R) (hq : strBytesQ P ops i s = some (b, e))
    (hk : ∀ (n c : Nat) (C : Array Value) (w' : World), b.size ≤ c → (∀ j, j < b.size → C[j]? = some (.int .u8 ((strNums b).getD j 0))) → St B w0 l0 w' (blk n (.cells C e (C.size, C.size + 1)) :: R) →
      OpsAt M P ops (i + 1) (putS s (dstOf ops i) (.slice (some ⟨n, 0, none⟩) b.size c)) w' K) : OpsAt M P ops i s w K := by
  unfold strBytesQ at hq
  split at hq
  · rename_i o ho
    split at hq
    · rename_i src dst x hop
      split at hq
      · rename_i e' b' hsrc hdst hx
        split at hq
        · rename_i he
          simp only [Option.some.injEq, Prod.mk.injEq] at hq
          obtain ⟨rfl, rfl⟩ := hq
          have hr := Lib.run_convert_string_bytes (P := P) w src dst e' b' hsrc hdst he
          have hB := hs.size
          refine ops_runs ho (v := .slice (some ⟨w.heap.size, 0, none⟩) b'.size (grownCap w b'.size 0 e')) (w' := Lib.bytesWorld w e' b') ?_ (hk _ _ (Lib.bytesCells w e' b') _ ?_ ?_ ?_)
          · simp only [execOp, hop, hx, Sem.run_bind, Result.andThen_ok, Sem.run_pure, hr]
          · exact grownCap_ge w b'.size 0 e'
          · intro j hj
            have := Lib.bytesWorld_cell w e' b' j hj
            have hn := Lib.bytesWorld_at_new w e' b'
            simp only [World.cell?, hn] at this
            simpa [strNums, List.getD, hj] using this
          · refine St.step0 (post := [blk w.heap.size (.cells (Lib.bytesCells w e' b') e' ((Lib.bytesCells w e' b').size, (Lib.bytesCells w e' b').size + 1))]) hs ⟨[w.heap.size], ⟨[w.heap.size], [], ⟨hB, Lib.bytesWorld_at_new w e' b', rfl⟩, fun b => by simp, fun b _ => by simp, by simp⟩, ?_⟩
            refine ⟨by simp [Lib.bytesWorld, World.freeze, World.alloc, World.drew, -World.alloc_eq, -World.drew_eq], by simp [Lib.bytesWorld, World.freeze, World.alloc, World.drew, -World.alloc_eq, -World.drew_eq], by simp [Lib.bytesWorld, World.freeze, World.alloc, World.drew, -World.alloc_eq, -World.drew_eq], by rw [Lib.bytesWorld_size]; omega, fun b hb _ => Lib.bytesWorld_at_old w e' b' b hb, fun b hb => .inr ?_⟩
            simp only [List.mem_singleton] at hb
            omega
        · cases hq
      · cases hq
    · cases hq
  · cases hq
end
def partN (n k : Nat) : Nat := if n - 8 * k < 8 then n - 8 * k else 8
theorem part_pos {n k : Nat} (h : 8 * k < n) : 0 < partN n k ∧ partN n k ≤ 8 ∧ 8 * k + partN n k ≤ n ∧ (8 * k + partN n k = n ∨ partN n k = 8) := by
  unfold partN; split <;> omega
end Go.Proofs.YthimamnblklkbaaDoor

namespace Go.Proofs.YthimamnblklkbaaDoor
theorem mn_part {n k : Nat} (h : 8 * k < n) : mn 8 ((n - 8 * k : Nat) : Int) = ((partN n k : Nat) : Int) := by
  unfold mn partN; split <;> split <;> omega
open Go Go.RowKit
theorem part_adr (b q j : Nat) : adr ((some ⟨b, 0, none⟩ : Option Addr).map (·.add (8 * q * 1))) (j * 1) = ⟨b, 8 * q + j, none⟩ := by
  unfold adr Addr.add
  simp
  split <;> split <;> simp_all
theorem part_cell {w : World} {b q j : Nat} {C : Array Value} {e : TypeId} {fz : Nat × Nat} {v : Value} (h : w.heap[b]? = some (.cells C e fz)) (hv : C[8 * q + j]? = some v) :
    w.cell? (adr ((some ⟨b, 0, none⟩ : Option Addr).map (·.add (8 * q * 1))) (j * 1)) = some v := by
  rw [part_adr]
  simp only [World.cell?, h]
  exact hv
theorem drop_bytes {s : ByteArray} {C : Array Value} {q m : Nat} (hC : ∀ j, j < s.size → C[j]? = some (.int .u8 ((strNums s).getD j 0))) (hm : 8 * q + m ≤ s.size) : ∀ j, j < m → C[8 * q + j]? = some (.int .u8 (((strNums s).drop (8 * q)).getD j 0)) := by
  intro j hj
  rw [hC _ (by omega), List.getD_eq_getElem?_getD, List.getD_eq_getElem?_getD, List.getElem?_drop]
end Go.Proofs.YthimamnblklkbaaDoor

namespace Go.Proofs.YthimamnblklkbaaDoor
open Go Go.RowKit
set_option linter.unusedVariables false
set_option linter.unusedSimpArgs false

def valB : List Int → Int
  | [] => 0
  | b :: bs => b + 256 * valB bs
def Byt (xs : List Int) : Prop := ∀ x ∈ xs, 0 ≤ x ∧ x < 256
theorem Byt.nil : Byt [] := by intro x hx; simp at hx
theorem Byt.cons {x : Int} {xs : List Int} (h : Byt (x :: xs)) : (0 ≤ x ∧ x < 256) ∧ Byt xs := ⟨h x (by simp), fun y hy => h y (by simp [hy])⟩
theorem Byt.drop {xs : List Int} (h : Byt xs) (n : Nat) : Byt (xs.drop n) := fun x hx => h x (List.mem_of_mem_drop hx)
theorem Byt.take {xs : List Int} (h : Byt xs) (n : Nat) : Byt (xs.take n) := fun x hx => h x (List.mem_of_mem_take hx)
theorem byt_str (s : ByteArray) : Byt (strNums s) := by
  intro x hx
  unfold strNums at hx
  obtain ⟨b, _, rfl⟩ := List.mem_map.1 hx
  have := b.toNat_lt
  omega
theorem Byt.getD {xs : List Int} (h : Byt xs) (k : Nat) : 0 ≤ xs.getD k 0 ∧ xs.getD k 0 < 256 := by
  rw [List.getD_eq_getElem?_getD]
  rcases Nat.lt_or_ge k xs.length with hk | hk
  · rw [List.getElem?_eq_getElem hk]; exact h _ (List.getElem_mem hk)
  · rw [List.getElem?_eq_none hk]; simp
theorem valB_range : ∀ {xs : List Int}, Byt xs → 0 ≤ valB xs ∧ valB xs < 256 ^ xs.length
  | [], _ => by simp [valB]
  | x :: xs, h => by
    have h1 := h.cons.1
    have h2 := valB_range h.cons.2
    simp only [valB, List.length_cons, Int.pow_succ]
    omega
theorem pow256 {n : Nat} (h : n ≤ 8) : (256 : Int) ^ n ≤ 18446744073709551616 := by
  have : n = 0 ∨ n = 1 ∨ n = 2 ∨ n = 3 ∨ n = 4 ∨ n = 5 ∨ n = 6 ∨ n = 7 ∨ n = 8 := by omega
  rcases this with rfl | rfl | rfl | rfl | rfl | rfl | rfl | rfl | rfl <;> decide
theorem valB_u64 {xs : List Int} (h : Byt xs) (hl : xs.length ≤ 8) : U64 (valB xs) := by
  have := valB_range h
  have := pow256 hl
  unfold U64; omega
theorem valB_byte : ∀ {xs : List Int}, Byt xs → ∀ j : Nat, valB xs / 256 ^ j % 256 = xs.getD j 0
  | [], _, j => by simp [valB]
  | x :: xs, h, 0 => by
    have h1 := h.cons.1
    simp only [valB, Int.pow_zero, Int.ediv_one, List.getD_cons_zero]
    omega
  | x :: xs, h, j + 1 => by
    have h1 := h.cons.1
    have ih := valB_byte h.cons.2 j
    have e : (x + 256 * valB xs) / 256 = valB xs := by omega
    rw [valB, List.getD_cons_succ, ← ih, Int.pow_succ, Int.mul_comm (256 ^ j) 256, ← Int.ediv_ediv_of_nonneg (by decide), e]
theorem pow8 {j : Nat} (h : j < 8) : (2 : Int) ^ (min (8 * (j : Int)).toNat 64) = 256 ^ j := by
  have : j = 0 ∨ j = 1 ∨ j = 2 ∨ j = 3 ∨ j = 4 ∨ j = 5 ∨ j = 6 ∨ j = 7 := by omega
  rcases this with rfl | rfl | rfl | rfl | rfl | rfl | rfl | rfl <;> decide
theorem shr_bytes {v : Int} {j : Nat} (hv : 0 ≤ v) (h : j < 8) : shrK .u64 v (8 * (j : Int)) = v / 256 ^ j := by
  unfold shrK
  show v.fdiv (2 ^ (min (8 * (j : Int)).toNat 64)) = _
  rw [pow8 h, Int.fdiv_eq_ediv_of_nonneg]
  exact Int.pow_nonneg (by decide)
def packF (s : ByteArray) : List Int := (List.range ((s.size + 7) / 8)).map fun (q : Nat) => valB (((strNums s).drop (8 * q)).take 8)
theorem packF_len (s : ByteArray) : (packF s).length = (s.size + 7) / 8 := by unfold packF; simp
theorem packF_get (s : ByteArray) {q : Nat} (h : q < (s.size + 7) / 8) : (packF s).getD q 0 = valB (((strNums s).drop (8 * q)).take 8) := by
  unfold packF
  simp [List.getD, h]
theorem packF_u64 (s : ByteArray) : ∀ x ∈ packF s, U64 x := by
  intro x hx
  unfold packF at hx
  obtain ⟨q, _, rfl⟩ := List.mem_map.1 hx
  exact valB_u64 (((byt_str s).drop _).take _) (by simp; omega)
theorem getD_part (xs : List Int) (q j : Nat) (h : j < 8) : ((xs.drop (8 * q)).take 8).getD j 0 = xs.getD (8 * q + j) 0 := by
  simp only [List.getD_eq_getElem?_getD, List.getElem?_take, if_pos h, List.getElem?_drop]
theorem bytesF_get (ws : List Int) {n j : Nat} (h : j < n) : (bytesF ws n).getD j 0 = shrK .u64 (ws.getD (j / 8) 0) (8 * ((j % 8 : Nat) : Int)) % 256 := by
  unfold bytesF
  simp [List.getD, h]
theorem bytesF_pack {s : ByteArray} {ws : List Int} (h : ∀ q, q < (s.size + 7) / 8 → ws.getD q 0 = (packF s).getD q 0) : bytesF ws s.size = strNums s := by
  refine eq_of_getD 0 (by rw [bytesF_len, strNums_len]) fun j h1 => ?_
  rw [bytesF_len] at h1
  have hb : Byt (((strNums s).drop (8 * (j / 8))).take 8) := ((byt_str s).drop _).take _
  rw [bytesF_get ws h1, h _ (by omega), packF_get s (by omega), shr_bytes (valB_range hb).1 (by omega), valB_byte hb, getD_part _ _ _ (by omega), show 8 * (j / 8) + j % 8 = j by omega]
theorem str_nums (s : ByteArray) : strOfNums (strNums s) = s := by
  unfold strOfNums strNums
  cases s with | mk d =>
  congr 1
  apply Array.ext'
  simp [List.map_map, Function.comp_def]
end Go.Proofs.YthimamnblklkbaaDoor

namespace Go.Proofs.YthimamnblklkbaaDoor
open Go Go.RowKit
set_option linter.unusedVariables false

def st1 (m x : Nat) : Nat := ((x / 2) &&& m) + (x &&& m)
def st2 (m x : Nat) : Nat := ((x / 4) &&& m) + (x &&& m)
def st3 (m x : Nat) : Nat := (x / 16 + x) &&& m

end Go.Proofs.YthimamnblklkbaaDoor

namespace Go.Proofs.YthimamnblklkbaaDoor
open Go Go.RowKit

theorem W.roundsA {G GZ : Type} {P : Program} {s : Fs} {w : World} {Q : Exit → Fs → World → Prop} {B : Nat} {w0 : World} {l0 : List Nat} {g : Operand} {ps : Array Tmp} {assign body : Code} {gf : Nat} {lb : Array Value}
    (n : Nat) (F : Nat → G → Prop) (Hs : G → List Asn) (c : Code) (FZ : GZ → Prop) (HsZ : GZ → List Asn) (own : List Asn) (enc : Nat → Array Value) (s0 : Nat → Nat → Fs) (x0 : G) (h0 : F 0 x0)
    (hs : St B w0 l0 w (own ++ Hs x0)) (hr : s.r = none) (hg : evS s g = .func (.func gf) #[] lb) (hf : ∀ args w, (callFunc gf args).run P w = .ok (.enter gf args) w) (hsz : ∀ k, (enc k).size = ps.size)
    (hrel : ∀ (a : Array Value) (k l : Nat), a.size = s.n → (∀ i, a.getD i undef = s.f i) → Rel ⟨(ps.zip (enc k)).foldl (fun tmps (t, a) => tmps.setIfInBounds t a) a, []⟩ (s0 k l) ∧ (s0 k l).r = some l)
    (ar : Nat → Array Value) (har : ∀ l, #[.func (.yield l) #[] #[]] ++ lb = ar l)
    (iter : ∀ (l : Nat) (w1 : World) (Y : Nat → Asn) (Z : Asn), (∀ k, k < n → ∀ w', YSpec P l (enc k) B w' [Y k] (fun v H' => (v = .bool true ∧ H' = [Y (k + 1)]) ∨ (v = .bool false ∧ H' = [Z]))) →
      Spec P gf (ar l) B w1 (own ++ [Y 0]) (fun v H' => v = .tuple #[] ∧ (H' = own ++ [Y n] ∨ H' = own ++ [Z])))
    (round : ∀ (k : Nat), k < n → ∀ (rc : Loop) (l : Nat) (w' : World) (x : G), F k x → ∀ lf, St B w' lf w' (blk l (.loop rc) :: Hs x) → ∀ K : Fs → World → Prop, (∀ s' w1, St B w' lf w1 (blk l (.loop rc) :: Hs x) →
      (∀ w2, St B w' lf w2 (blk l (.loop { rc with state := .busy }) :: Hs x) → W P body s' w2 (rq B w' lf l rc (F (k + 1)) Hs c FZ HsZ)) → K s' w1) → W P assign (s0 k l) w' (seqQ K (fun _ _ _ => False)))
    (done : ∀ D w3 x, F n x → St B w0 l0 w3 (blk D (.deferred (some [])) :: (own ++ Hs x)) → Q .normal (s.mark D) w3)
    (jump : ∀ D w3 z, FZ z → St B w0 l0 w3 (blk D (.deferred (some [])) :: (own ++ HsZ z)) → W P c (s.mark D) w3 Q) : W P (.rangeFunc g ps assign body) s w Q :=
  W.rounds n F Hs c FZ HsZ own enc s0 x0 h0 hs hr hg hf hsz hrel (fun l w1 Y Z hy => by rw [har l]; exact iter l w1 Y Z hy) round done jump
end Go.Proofs.YthimamnblklkbaaDoor

namespace Go.Proofs.YthimamnblklkbaaDoor
open Go Go.RowKit
set_option linter.unusedVariables false

def bitI (v : Int) (j : Nat) : Bool := v.toNat.testBit j
theorem bitI_out {v : Int} {j : Nat} (h : U64 v) (hj : 64 ≤ j) : bitI v j = false := by
  have hl : v.toNat < 2 ^ 64 := by unfold U64 at h; omega
  exact Nat.testBit_lt_two_pow (Nat.lt_of_lt_of_le hl (Nat.pow_le_pow_right (by omega) hj))
theorem bitI_ext {x y : Int} (hx : U64 x) (hy : U64 y) (h : ∀ j, j < 64 → bitI x j = bitI y j) : x = y := by
  have e : x.toNat = y.toNat := Nat.eq_of_testBit_eq fun j => by
    by_cases hj : j < 64
    · exact h j hj
    · exact (bitI_out hx (by omega)).trans (bitI_out hy (by omega)).symm
  unfold U64 at hx hy
  omega
theorem ofInt_of {x : Int} (h : U64 x) : BitVec.ofInt 64 x = BitVec.ofNat 64 x.toNat := by
  obtain ⟨n, rfl⟩ := Int.eq_ofNat_of_zero_le h.1
  simp
theorem bits_of {op : BinOp} {x y : Int} (hx : U64 x) (hy : U64 y) : bits op .u64 x y = (((match op with
    | .and => BitVec.ofNat 64 x.toNat &&& BitVec.ofNat 64 y.toNat
    | .or => BitVec.ofNat 64 x.toNat ||| BitVec.ofNat 64 y.toNat
    | .xor => BitVec.ofNat 64 x.toNat ^^^ BitVec.ofNat 64 y.toNat
    | _ => BitVec.ofNat 64 x.toNat &&& ~~~(BitVec.ofNat 64 y.toNat)) : BitVec 64).toNat : Int) := by
  unfold bits
  rw [show IntKind.u64.bits = 64 from rfl]
  simp only [ofInt_of hx, ofInt_of hy]
  have h : ∀ b : BitVec 64, IntKind.u64.wrap (b.toNat : Int) = (b.toNat : Int) := fun b => wrap_u64 (Int.natCast_nonneg _) (Int.ofNat_lt.2 b.isLt)
  exact h _
theorem bits_u64 {op : BinOp} {x y : Int} (hx : U64 x) (hy : U64 y) : U64 (bits op .u64 x y) := by
  rw [bits_of hx hy]
  exact ⟨Int.natCast_nonneg _, Int.ofNat_lt.2 (BitVec.isLt _)⟩
theorem bitI_cast (b : BitVec 64) (j : Nat) : bitI (b.toNat : Int) j = b.getLsbD j := by
  unfold bitI
  rw [Int.toNat_natCast]
  exact BitVec.testBit_toNat b
theorem lsb_of {x : Int} {j : Nat} (hx : U64 x) : (BitVec.ofNat 64 x.toNat).getLsbD j = bitI x j := by
  rw [BitVec.getLsbD_ofNat]
  by_cases hj : j < 64
  · simp [hj, bitI]
  · have := bitI_out (j := j) hx (by omega)
    simp [hj, this]
theorem bitI_or {x y : Int} {j : Nat} (hx : U64 x) (hy : U64 y) : bitI (bits .or .u64 x y) j = (bitI x j || bitI y j) := by
  rw [bits_of hx hy, bitI_cast, BitVec.getLsbD_or, lsb_of hx, lsb_of hy]
end Go.Proofs.YthimamnblklkbaaDoor

namespace Go.Proofs.YthimamnblklkbaaDoor
open Go Go.RowKit

theorem W.normD {P : Program} {c : Code} {s : Fs} {w : World} {Q : Exit → Fs → World → Prop} {n : Nat} {r : Option Nat} {d : List Deferred} {l : List (Nat × Value)} (h : ((s.n, s.r, s.d), l.map fun p => s.f p.1) = ((n, r, d), l.map (·.2))) (hk : ∀ us, W P c (slotsD n l us r d) w Q) : W P c s w Q := by
  obtain ⟨us, rfl⟩ := slotsD_intro s h
  exact hk us
theorem run_enterLoop_inner {P : Program} {w : World} {lo : Nat} {rc0 : Loop} (h : w.heap[lo]? = some (.loop rc0)) (fn : FuncId) (tmps : Array Value) (ps : Array Tmp) (assign body : Code) :
    (Instr.enterLoop fn tmps ps assign body (some lo)).run P w = .ok (w.heap.size, []) (w.alloc (.loop { state := .ready, pending := none, fn, tmps, params := ps, assign, body, defers := rc0.defers })) := by
  unfold Instr.enterLoop
  simp only [Sem.run_bind, run_getLoop h, run_newObj_alloc, Result.andThen, Sem.run_pure]

theorem W.rangeFuncIn {P : Program} {s : Fs} {w : World} {Q : Exit → Fs → World → Prop} {B : Nat} {w0 : World} {l0 : List Nat} {g : Operand} {ps : Array Tmp} {assign body : Code} {gf : Nat} {lb : Array Value} {pre R : List Asn}
    {post : Loop → Nat → Value → List Asn → Prop} {lo : Nat} {rc0 : Loop}
    (hs : St B w0 l0 w (pre ++ (blk lo (.loop rc0) :: R))) (hr : s.r = some lo) (hg : evS s g = .func (.func gf) #[] lb) (hf : ∀ args w, (callFunc gf args).run P w = .ok (.enter gf args) w)
    (hc : ∀ (rc : Loop) (l : Nat) (w1 : World), rc.tmps.size = s.n → (∀ i, rc.tmps.getD i undef = s.f i) → rc.state = .ready → rc.pending = none → rc.params = ps → rc.assign = assign → rc.body = body →
      St B w0 l0 w1 (blk l (.loop rc) :: (pre ++ (blk lo (.loop rc0) :: R))) → Spec P gf (#[.func (.yield l) #[] #[]] ++ lb) B w1 (blk l (.loop rc) :: pre) (post rc l))
    (hk : ∀ (rc : Loop) (l : Nat) (v : Value) (H' : List Asn), post rc l v H' → ∃ rc' H'', rc'.state ≠ .busy ∧ H' = blk l (.loop rc') :: H'' ∧
      ∀ w3, St B w0 l0 w3 (H'' ++ (blk lo (.loop rc0) :: R)) → match rc'.pending with
        | none => Q .normal s w3
        | some c => W P c s w3 Q) : W P (.rangeFunc g ps assign body) s w Q := by
  refine ⟨fun x hx => ?_⟩
  rw [hr]
  refine wpIn_rangeFunc ?_
  intro fn _
  obtain ⟨rc, hrc⟩ : ∃ rc : Loop, rc = { state := .ready, pending := none, fn, tmps := x.tmps, params := ps, assign, body, defers := rc0.defers } := ⟨_, rfl⟩
  have hB := hs.size
  have hlo : w.heap[lo]? = some (.loop rc0) := by
    refine hs.heapAt pre.length ?_
    simp
  have hs2 : St B w0 l0 (w.alloc (.loop rc)) (blk w.heap.size (.loop rc) :: (pre ++ (blk lo (.loop rc0) :: R))) := by
    refine St.step0 (post := [blk w.heap.size (.loop rc)]) hs ⟨[w.heap.size], ⟨[w.heap.size], [], ⟨hB, heap_alloc_new w _, rfl⟩, fun c => by simp, fun c _ => by simp, by simp⟩, rfl, rfl, rfl, by simp, fun c hc _ => Below.heap_alloc _ _ _ hc, fun c hc => .inr (by simp only [List.mem_singleton] at hc; omega)⟩
  have hspec := hc rc w.heap.size _ (by rw [hrc]; exact hx.1.1) (by rw [hrc]; exact hx.2) (by rw [hrc]) (by rw [hrc]) (by rw [hrc]) (by rw [hrc]) (by rw [hrc]) hs2
  have hs3 : St B w0 l0 (w.alloc (.loop rc)) ((blk w.heap.size (.loop rc) :: pre) ++ (blk lo (.loop rc0) :: R)) := hs2
  obtain ⟨l1, s1, key⟩ := hs3.part
  refine ⟨w.heap.size, [], w.alloc (.loop rc), { target := .fn (.func gf) lb, args := #[.func (.yield w.heap.size) #[] #[]] }, w.alloc (.loop rc), gf,
    #[.func (.yield w.heap.size) #[] #[]] ++ lb, w.alloc (.loop rc), by rw [show (fen (some lo)).round = some lo from rfl, run_enterLoop_inner hlo, ← hrc], ?_, fun _ _ => trivial, ?_, fen_depth, ?_⟩
  · simp only [resolve, ev_rel hx, hg]
    simp [go_sem]
    rfl
  · simp [invoke, go_sem, hf]
  · refine calls_fen (Calls.mono (hspec l1 hs3.size s1) ?_)
    rintro e w3 ⟨v, rfl, H', l', hp, hsep, hu⟩
    obtain ⟨rc', H'', hne, rfl, hfin⟩ := hk rc _ v H' hp
    have hs4 := key w3 _ l' hsep hu
    have hs5 := putObj_blk (.loop { rc' with state := .exhausted }) hs4
    have hs6 := hs5.drop
    refine ⟨rc'.pending, _, run_endLoop (hs4.heapAt 0 rfl) hne, ?_⟩
    have h8 := hfin _ hs6
    have hrel : Rel { x with defers := [] ++ x.defers } s := hx
    cases hpe : rc'.pending with
    | none => rw [hpe] at h8; exact ⟨_, hrel, hr, h8⟩
    | some c =>
      rw [hpe] at h8
      have h9 := W.out h8 _ hrel
      rw [hr] at h9
      exact h9

theorem W.roundsIn {G GZ : Type} {P : Program} {s : Fs} {w : World} {Q : Exit → Fs → World → Prop} {B : Nat} {w0 : World} {l0 : List Nat} {g : Operand} {ps : Array Tmp} {assign body : Code} {gf : Nat} {lb : Array Value} {lo : Nat} {rc0 : Loop}
    (n : Nat) (F : Nat → G → Prop) (Hs : G → List Asn) (c : Code) (FZ : GZ → Prop) (HsZ : GZ → List Asn) (own : List Asn) (enc : Nat → Array Value) (s0 : Nat → Nat → Fs) (x0 : G) (h0 : F 0 x0)
    (hs : St B w0 l0 w ((own ++ Hs x0) ++ [blk lo (.loop rc0)])) (hr : s.r = some lo) (hg : evS s g = .func (.func gf) #[] lb) (hf : ∀ args w, (callFunc gf args).run P w = .ok (.enter gf args) w) (hsz : ∀ k, (enc k).size = ps.size)
    (hrel : ∀ (a : Array Value) (k l : Nat), a.size = s.n → (∀ i, a.getD i undef = s.f i) → Rel ⟨(ps.zip (enc k)).foldl (fun tmps (t, a) => tmps.setIfInBounds t a) a, []⟩ (s0 k l) ∧ (s0 k l).r = some l)
    (ar : Nat → Array Value) (har : ∀ l, #[.func (.yield l) #[] #[]] ++ lb = ar l)
    (iter : ∀ (l : Nat) (w1 : World) (Y : Nat → Asn) (Z : Asn), (∀ k, k < n → ∀ w', YSpec P l (enc k) B w' [Y k] (fun v H' => (v = .bool true ∧ H' = [Y (k + 1)]) ∨ (v = .bool false ∧ H' = [Z]))) →
      Spec P gf (ar l) B w1 (own ++ [Y 0]) (fun v H' => v = .tuple #[] ∧ (H' = own ++ [Y n] ∨ H' = own ++ [Z])))
    (round : ∀ (k : Nat), k < n → ∀ (rc : Loop) (l : Nat) (w' : World) (x : G), F k x → ∀ lf, St B w' lf w' (blk l (.loop rc) :: Hs x) → ∀ K : Fs → World → Prop, (∀ s' w1, St B w' lf w1 (blk l (.loop rc) :: Hs x) →
      (∀ w2, St B w' lf w2 (blk l (.loop { rc with state := .busy }) :: Hs x) → W P body s' w2 (rq B w' lf l rc (F (k + 1)) Hs c FZ HsZ)) → K s' w1) → W P assign (s0 k l) w' (seqQ K (fun _ _ _ => False)))
    (done : ∀ w3 x, F n x → St B w0 l0 w3 ((own ++ Hs x) ++ [blk lo (.loop rc0)]) → Q .normal s w3)
    (jump : ∀ w3 z, FZ z → St B w0 l0 w3 ((own ++ HsZ z) ++ [blk lo (.loop rc0)]) → W P c s w3 Q) : W P (.rangeFunc g ps assign body) s w Q := by
  refine W.rangeFuncIn (pre := own ++ Hs x0) (R := []) (post := fun rc l v H' => v = .tuple #[] ∧ ((∃ x, F n x ∧ H' = blk l (.loop rc) :: (own ++ Hs x)) ∨ (∃ z, FZ z ∧ H' = blk l (.loop { rc with state := .done, pending := some c }) :: (own ++ HsZ z))) ∧ rc.state = .ready ∧ rc.pending = none) hs hr hg hf ?_ ?_
  · intro rc l w1 h1 h2 h3 h4 h5 h6 h7 hs1
    have hyy : ∀ k, k < n → ∀ w', YSpec P l (enc k) B w' [YA l rc (F k) Hs] (fun v H' => (v = .bool true ∧ H' = [YA l rc (F (k + 1)) Hs]) ∨ (v = .bool false ∧ H' = [YA l { rc with state := .done, pending := some c } FZ HsZ])) := by
      intro k hk w'
      obtain ⟨hrl, hrr⟩ := hrel rc.tmps k l h1 h2
      rw [← h5] at hrl
      refine yspec_ghost h3 h4 (by rw [h5]; exact hsz k) (s0 k l) hrl hrr ?_
      intro x hF lf hs2
      have hw := round k hk rc l w' x hF lf hs2
      rw [← h6, ← h7] at hw
      exact hw
    have hit := iter l w1 (fun k => YA l rc (F k) Hs) (YA l { rc with state := .done, pending := some c } FZ HsZ) hyy
    rw [← har l] at hit
    intro lf hB hsep
    have st1 : St B w1 lf w1 (blk l (.loop rc) :: (own ++ Hs x0)) := St.begin hB hsep
    have hp1 : (blk l (.loop rc) :: (own ++ Hs x0)).Perm (blk l (.loop rc) :: Hs x0 ++ own) := by
      simp only [List.cons_append]
      exact List.Perm.cons _ List.perm_append_comm
    have st2 := St.close (F := F 0) (Hs := fun x => blk l (.loop rc) :: Hs x) x0 h0 (st1.perm hp1)
    have st3 : St B w1 lf w1 (own ++ [YA l rc (F 0) Hs]) := st2.perm (List.perm_append_singleton _ _).symm
    have st4 : St B w1 lf w1 ((own ++ [YA l rc (F 0) Hs]) ++ []) := by simpa using st3
    obtain ⟨l1, s1, key⟩ := st4.part
    refine Calls.mono (hit l1 hB s1) ?_
    rintro e w3 ⟨v, rfl, H', l', ⟨rfl, hp⟩, hsep', hu⟩
    have fin : ∀ {G' : Type} (rc' : Loop) (F' : G' → Prop) (Hs' : G' → List Asn), H' = own ++ [YA l rc' F' Hs'] → ∃ x, F' x ∧ St B w1 lf w3 (blk l (.loop rc') :: (own ++ Hs' x)) := by
      intro G' rc' F' Hs' hH
      subst hH
      have st5 := key w3 _ l' hsep' hu
      have st6 : St B w1 lf w3 (YA l rc' F' Hs' :: own) := by
        have : ((own ++ [YA l rc' F' Hs']) ++ []).Perm (YA l rc' F' Hs' :: own) := by rw [List.append_nil]; exact List.perm_append_singleton (YA l rc' F' Hs') own
        exact st5.perm this
      obtain ⟨x, hF, st7⟩ := St.open (F := F') (Hs := fun x => blk l (.loop rc') :: Hs' x) st6
      refine ⟨x, hF, st7.perm ?_⟩
      simp only [List.cons_append]
      exact List.Perm.cons _ List.perm_append_comm
    rcases hp with hp | hp
    · obtain ⟨x, hF, _, _, l5, h8, h9⟩ := fin _ _ _ hp
      exact ⟨_, rfl, _, l5, ⟨rfl, .inl ⟨x, hF, rfl⟩, h3, h4⟩, h8, h9⟩
    · obtain ⟨z, hz, _, _, l5, h8, h9⟩ := fin _ _ _ hp
      exact ⟨_, rfl, _, l5, ⟨rfl, .inr ⟨z, hz, rfl⟩, h3, h4⟩, h8, h9⟩
  · rintro rc l v H' ⟨rfl, hp, h3, h4⟩
    rcases hp with ⟨x, hF, rfl⟩ | ⟨z, hz, rfl⟩
    · refine ⟨rc, own ++ Hs x, (fun h => by have h' := h3.symm.trans h; cases h'), rfl, fun w3 hs3 => ?_⟩
      rw [h4]
      exact done w3 x hF hs3
    · refine ⟨{ rc with state := .done, pending := some c }, own ++ HsZ z, (fun h => by cases h), rfl, fun w3 hs3 => ?_⟩
      exact jump w3 z hz hs3

section
variable {P : Program} {ops : Array Oper} {i : Nat} {s : Fs} {w : World}
def intQ : Value → Option Int
  | .int _ k => some k
  | _ => none
theorem intQ_some {v : Value} {z : Int} (h : intQ v = some z) : ∃ k, v = .int k z := by
  unfold intQ at h
  split at h
  · rename_i k _
    cases h
    exact ⟨k, rfl⟩
  · cases h
def slice3Q (P : Program) (ops : Array Oper) (i : Nat) (s : Fs) : Option ((Option Addr × Nat × Nat) × Int × Int × Int × Nat) :=
  match opQ ops i s with
  | some o => match o.op with
    | .slice t x (some y1) (some y2) (some y3) => match P.underlying t, evS s x with
      | some (.slice e), .slice a n c => match P.info? e, intQ (evS s y1), intQ (evS s y2), intQ (evS s y3) with
        | some f, some l, some h, some m => some ((a, n, c), l, h, m, f.size)
        | _, _, _, _ => none
      | _, _ => none
    | _ => none
  | none => none
theorem runs_slice3 {a : Option Addr} {n c size : Nat} (k m z : Nat) (h1 : k ≤ m) (h2 : m ≤ z) (h3 : z ≤ c) (hq : slice3Q P ops i s = some ((a, n, c), (k : Int), (m : Int), (z : Int), size)) :
    RunsTo P ops i s w (.slice (if z = k then a else a.map (·.add (k * size))) (m - k) (z - k)) w := by
  unfold slice3Q at hq
  split at hq
  · rename_i o ho
    split at hq
    · rename_i t x y1 y2 y3 hop
      refine ⟨_, ho, ?_⟩
      split at hq
      · rename_i e a' n' c' hu hx
        split at hq
        · rename_i f l h mx hf hl hh hm
          simp only [Option.some.injEq, Prod.mk.injEq] at hq
          obtain ⟨⟨rfl, rfl, rfl⟩, rfl, rfl, rfl, rfl⟩ := hq
          obtain ⟨q1, e1⟩ := intQ_some hl
          obtain ⟨q2, e2⟩ := intQ_some hh
          obtain ⟨q3, e3⟩ := intQ_some hm
          have hso : (sizeOf e).run P w = .ok f.size w := by simp [sizeOf, typeInfo, hf]
          have hun := run_underlying (P := P) hu w
          have hb : ∀ (q : IntKind) (z y : Nat) (code : BoundsCode), z ≤ y → (Instr.sliceBound (.int q (z : Int)) y code).run P w = .ok z w := by
            intro q z y code hzy
            have : (0 : Int) ≤ (z : Int) ∧ (z : Int) ≤ (y : Int) := ⟨by omega, by omega⟩
            simp only [Instr.sliceBound, asIntOf, Sem.run_bind, Sem.run_pure, Result.andThen_ok, if_pos this, Int.toNat_natCast]
          have hbounds : (Instr.sliceBounds true n' c' (some (.int q1 (k : Int))) (some (.int q2 (m : Int))) (some (.int q3 (z : Int)))).run P w = .ok (k, m, z) w := by
            unfold Instr.sliceBounds
            simp only [Sem.run_bind, Sem.run_pure, Result.andThen_ok, hb q3 z c' _ h3, hb q2 m z _ h2, hb q1 k m _ h1]
          have hxx : (Instr.sliceAt t (.slice a' n' c') (some (.int q1 (k : Int))) (some (.int q2 (m : Int))) (some (.int q3 (z : Int)))).run P w = .ok (.slice (if z = k then a' else a'.map (·.add (k * f.size))) (m - k) (z - k)) w := by
            unfold Instr.sliceAt
            simp only [Sem.run_bind, hun, Result.andThen_ok]
            unfold Instr.slice
            simp only [Sem.run_bind, hun, Result.andThen_ok, hbounds, hso, Sem.run_pure]
          simp only [execOp, hop, hx, Option.map_some, e1, e2, e3, Sem.run_bind, hxx, Result.andThen_ok, Sem.run_pure]
        · cases hq
      · cases hq
    · cases hq
  · cases hq
end
end Go.Proofs.YthimamnblklkbaaDoor

set_option maxRecDepth 20000
namespace Go.Proofs.YthimamnblklkbaaDoor
open Go Go.RowKit
set_option linter.unusedSimpArgs false
set_option linter.unusedVariables false

theorem chunk_spec {ba : Option Addr} {bn bc : Nat} (B : Nat) (w : World) : Spec Tryd.prog 145 #[(.slice ba bn bc), (.int .i64 8)] B w [] (fun v H' => ∃ b1 b2, v = .func (.func 154) #[] #[ptr b1, ptr b2] ∧ H' = [blk b1 (.cells [(.slice ba bn bc)].toArray 121 (0, 0)), blk b2 (.cells [(.int .i64 8)].toArray 3 (0, 0))]) := by
 refine spec_Q Tryd.func145 rfl fun hs => ?_
 refine W.sr fun K1 hK1 => ?_
 refine zN [(.slice ba bn bc)] 121 hs fun b4 w2 hs3 => ?_
 refine zN [(.int .i64 8)] 3 hs3 fun b7 w5 hs6 => ?_
 refine zE 1 (hK1 _ _ ?_)
 refine W.seq fun K8 hK8 => ?_
 refine W.sr fun K9 hK9 => ?_
 refine zL ⟨b7, 0, none⟩ (.int .i64 8) (hs6.cellAt 0 rfl rfl) ?_
 refine zE 1 (hK9 _ _ ?_)
 refine W.cond_false false (by kernel_rfl) rfl ?_
 refine W.skip ?_
 refine hK8 _ _ ?_
 refine W.sr fun K10 hK10 => ?_
 refine zE 2 (hK10 _ _ ?_)
 refine W.ret ?_
 have hs11 := St.f1 hs6
 refine ret_of (.func (.func 154) #[] #[(.pointer (some ⟨b4, 0, none⟩)), (.pointer (some ⟨b7, 0, none⟩))]) (by kernel_rfl) ⟨_, ⟨b4, b7, rfl, rfl⟩, hs11⟩

theorem back_spec {ba : Option Addr} {bn bc : Nat} (B : Nat) (w : World) : Spec Tryd.prog 146 #[(.slice ba bn bc)] B w [] (fun v H' => ∃ b1, v = .func (.func 155) #[] #[ptr b1] ∧ H' = [blk b1 (.cells [(.slice ba bn bc)].toArray 121 (0, 0))]) := by
 refine spec_Q Tryd.func146 rfl fun hs => ?_
 refine W.sr fun K1 hK1 => ?_
 refine zN [(.slice ba bn bc)] 121 hs fun b4 w2 hs3 => ?_
 refine zE 1 (hK1 _ _ ?_)
 refine W.sr fun K5 hK5 => ?_
 refine zE 2 (hK5 _ _ ?_)
 refine W.ret ?_
 refine ret_of (.func (.func 155) #[] #[(.pointer (some ⟨b4, 0, none⟩))]) (by kernel_rfl) ⟨_, ⟨b4, rfl, rfl⟩, hs3⟩

end Go.Proofs.YthimamnblklkbaaDoor

set_option maxRecDepth 20000
set_option maxHeartbeats 2000000
namespace Go.Proofs.YthimamnblklkbaaDoor
open Go Go.RowKit
set_option linter.unusedSimpArgs false
set_option linter.unusedVariables false

theorem chunk1_spec {b0 bn bc c1 c2 yl : Nat} {Y : Nat → Asn} {Z : Asn} (B : Nat) (w : World) (hbc : bn ≤ bc) (hbm : bn ≤ 1000000) (hy : ∀ k : Nat, 8 * k < bn → ∀ w', YSpec Tryd.prog yl #[.slice ((some ⟨b0, 0, none⟩ : Option Addr).map (·.add (8 * k * 1))) (partN bn k) (partN bn k)] B w' [Y k] (fun v H' => (v = .bool true ∧ H' = [Y (k + 1)]) ∨ (v = .bool false ∧ H' = [Z]))) : Spec Tryd.prog 154 #[(.func (.yield yl) #[] #[]), (.pointer (some ⟨c1, 0, none⟩)), (.pointer (some ⟨c2, 0, none⟩))] B w [blk c1 (.cells [(.slice (some ⟨b0, 0, none⟩) bn bc)].toArray 121 (0, 0)), blk c2 (.cells [(.int .i64 8)].toArray 3 (0, 0)), Y 0] (fun v H' => v = .tuple #[] ∧ (H' = [blk c1 (.cells [(.slice (some ⟨b0, 0, none⟩) bn bc)].toArray 121 (0, 0)), blk c2 (.cells [(.int .i64 8)].toArray 3 (0, 0)), Y ((bn + 7) / 8)] ∨ H' = [blk c1 (.cells [(.slice (some ⟨b0, 0, none⟩) bn bc)].toArray 121 (0, 0)), blk c2 (.cells [(.int .i64 8)].toArray 3 (0, 0)), Z])) := by
 refine spec_W Tryd.func154 rfl fun l0 hs => ?_
 refine W.sr fun K1 hK1 => ?_
 refine zE 1 (hK1 _ _ ?_)
 refine W.block ?_
 refine W.loop (G := Nat) (fun | k, s_, w_ => (∃ us, s_ = slots 31 [(0, (.func (.yield yl) #[] #[])), (1, (.pointer (some ⟨c1, 0, none⟩))), (2, (.pointer (some ⟨c2, 0, none⟩))), (4, (.int .i64 ((8 * k : Nat) : Int)))] us) ∧ St B w l0 w_ [blk c1 (.cells [(.slice (some ⟨b0, 0, none⟩) bn bc)].toArray 121 (0, 0)), blk c2 (.cells [(.int .i64 8)].toArray 3 (0, 0)), Y k] ∧ (8 * k < bn + 8)) (fun k => bn - 8 * k) 0 ⟨slots_intro _ (by kernel_rfl), hs, by omega⟩ ?_
 rintro k _ w2 ⟨⟨us, rfl⟩, hs3, hk0⟩
 refine W.seq fun K4 hK4 => ?_
 refine W.sr fun K5 hK5 => ?_
 refine zR 1 ?_
 refine zL ⟨c1, 0, none⟩ (.slice (some ⟨b0, 0, none⟩) bn bc) (hs3.cellAt 0 rfl rfl) ?_
 refine zE 2 (hK5 _ _ ?_)
 refine W.cond (decide (((8 * k : Nat) : Int) < (bn : Int))) (by kernel_rfl) (fun h6 => ?_) (fun h6 => ?_)
 ·
  have h6p := of_decide_eq_true h6
  refine W.skip ?_
  refine hK4 _ _ ?_
  refine W.seq fun K7 hK7 => ?_
  refine W.block ?_
  refine W.seq fun K8 hK8 => ?_
  have hs9 := hs3.drew
  refine W.regionD [(0, 0), (0, 0), (0, 0), (6, 6), (8, 8), (17, 17), (63, 32)] (fun w_ => St B w l0 w_ [blk c1 (.cells [(.slice (some ⟨b0, 0, none⟩) bn bc)].toArray 121 (0, 0)), blk c2 (.cells [(.int .i64 8)].toArray 3 (0, 0)), Y k]) (by kernel_rfl) hs9 ?_
  refine any_R 0 (by kernel_rfl) (fun _ hS_ => runs_load (ad := ⟨c2, 0, none⟩) (v := (.int .i64 8)) (by kernel_rfl) (hS_.cellAt 1 rfl rfl)) hs9 ?_
  refine any_R 1 (by kernel_rfl) (fun _ hS_ => runs_load (ad := ⟨c1, 0, none⟩) (v := (.slice (some ⟨b0, 0, none⟩) bn bc)) (by kernel_rfl) (hS_.cellAt 0 rfl rfl)) hs9 ?_
  refine any_val (v := (.int .i64 ((8 * k : Nat) : Int))) (v' := (.int .i64 ((8 * k : Nat) : Int))) 2 (by kernel_rfl) (fun _ => by kernel_rfl) rfl hs9 ?_
  refine any_step 3 (by kernel_rfl) (by kernel_rfl) ?_
  refine ops_R (runs_suffix (a := (some ⟨b0, 0, none⟩)) (n := bn) (c := bc) (z := ((8 * k : Nat) : Int)) (size := 1) (8 * k) rfl (by omega) hbc (by omega) ⟨_, rfl⟩ (by kernel_rfl)) ?_
  refine ops_done (by kernel_rfl) ⟨hs9, ?_⟩
  refine any_val (v := (.int .i64 ((bn - 8 * k : Nat) : Int))) (v' := (.int .i64 ((bn - 8 * k : Nat) : Int))) 4 (by kernel_rfl) (fun _ => by kernel_rfl) rfl hs9 ?_
  refine any_step 5 (by kernel_rfl) (by kernel_rfl) ?_
  have hp_ := part_pos (show 8 * k < bn by omega)
  have hmn_ : mn 8 ((bn - 8 * k : Nat) : Int) = ((partN bn k : Nat) : Int) := mn_part (by omega)
  refine ops_val (v := .int .i64 (mn 8 ((bn - 8 * k : Nat) : Int))) (v' := (.int .i64 ((partN bn k : Nat) : Int))) (by kernel_rfl) (congrArg (Value.int .i64) hmn_) ?_
  refine ops_done (by kernel_rfl) ⟨hs9, ?_⟩
  refine any_val (v := (.int .i64 ((partN bn k : Nat) : Int))) (v' := (.int .i64 ((partN bn k : Nat) : Int))) 6 (by kernel_rfl) (fun _ => by kernel_rfl) rfl hs9 ?_
  refine any_done (by kernel_rfl) ?_
  refine hK8 _ _ ?_
  refine W.sr fun K10 hK10 => ?_
  refine zR 1 ?_
  refine zL ⟨c1, 0, none⟩ (.slice (some ⟨b0, 0, none⟩) bn bc) (hs9.cellAt 0 rfl rfl) ?_
  refine zR 3 ?_
  have h11 : -9223372036854775808 ≤ (((8 * k : Nat) : Int) + ((partN bn k : Nat) : Int)) ∧ (((8 * k : Nat) : Int) + ((partN bn k : Nat) : Int)) ≤ 9223372036854775807 := by omega
  refine zI _ (wrap_i64 h11.1 h11.2) ?_
  refine zR 2 ?_
  have h12 : -9223372036854775808 ≤ (((8 * k : Nat) : Int) + ((partN bn k : Nat) : Int)) ∧ (((8 * k : Nat) : Int) + ((partN bn k : Nat) : Int)) ≤ 9223372036854775807 := by omega
  refine zI _ (wrap_i64 h12.1 h12.2) ?_
  refine ops_R (runs_slice3 (a := (some ⟨b0, 0, none⟩)) (n := bn) (c := bc) (size := 1) (8 * k) (8 * k + partN bn k) (8 * k + partN bn k) (by omega) (by omega) (by omega) (by kernel_rfl)) ?_
  rw [if_neg (by omega), Nat.add_sub_cancel_left]
  have hs13 := St.f2 hs9
  refine ops_yield (pre := [Y k]) (l := yl) hs13 (by kernel_rfl) (by kernel_rfl) (hy k (by omega) _) ?_
  rintro _ _ w14 (⟨rfl, rfl⟩ | ⟨rfl, rfl⟩) hs15
  ·
   have hs16 : St B w l0 w14 [Y (k + 1), blk c1 (.cells [(.slice (some ⟨b0, 0, none⟩) bn bc)].toArray 121 (0, 0)), blk c2 (.cells [(.int .i64 8)].toArray 3 (0, 0))] := hs15
   refine zE 1 (hK10 _ _ ?_)
   refine W.cond_false false (by kernel_rfl) rfl ?_
   refine W.skip ?_
   refine normal_block ?_
   refine hK7 _ _ ?_
   refine W.region ?_
   refine zR 1 ?_
   refine zL ⟨c2, 0, none⟩ (.int .i64 8) (hs16.cellAt 2 rfl rfl) ?_
   have h17 : -9223372036854775808 ≤ (((8 * k : Nat) : Int) + 8) ∧ (((8 * k : Nat) : Int) + 8) ≤ 9223372036854775807 := by omega
   refine zI _ (wrap_i64 h17.1 h17.2) ?_
   refine zE 1 ?_
   have hs18 := St.f2 hs16
   have hs19 := St.f2 hs18
   exact ⟨k + 1, ⟨slots_intro _ (by kernel_rfl), hs19, by omega⟩, by omega⟩
  ·
   have hs20 : St B w l0 w14 [Z, blk c1 (.cells [(.slice (some ⟨b0, 0, none⟩) bn bc)].toArray 121 (0, 0)), blk c2 (.cells [(.int .i64 8)].toArray 3 (0, 0))] := hs15
   refine zE 1 (hK10 _ _ ?_)
   refine W.cond_true true (by kernel_rfl) rfl ?_
   refine W.ret (ret_block (ret_seq (ret_seq (ret_block ?_))))
   have hs21 := St.f2 hs20
   have hs22 := St.f2 hs21
   refine ret_of (.tuple #[]) (by kernel_rfl) ⟨_, ⟨rfl, .inr rfl⟩, hs22⟩
 ·
  have h6p := of_decide_eq_false h6
  refine W.exit (exit_seq (exit_seq (exit_here ?_)))
  have hn_ : k = (bn + 7) / 8 := by omega
  subst hn_
  refine ret_ofN (.tuple #[]) (by kernel_rfl) ⟨_, ⟨rfl, .inl rfl⟩, hs3⟩

end Go.Proofs.YthimamnblklkbaaDoor

set_option maxRecDepth 20000
set_option maxHeartbeats 2000000
namespace Go.Proofs.YthimamnblklkbaaDoor
open Go Go.RowKit
set_option linter.unusedSimpArgs false
set_option linter.unusedVariables false

theorem back1_spec {b0 q m c1 yl : Nat} {C : Array Value} {e : TypeId} {xs : List Int} {Y : Nat → Asn} {Z : Asn} (B : Nat) (w : World) (hm : m ≤ 8) (hC : ∀ j, j < m → C[8 * q + j]? = some (.int .u8 (xs.getD j 0))) (hy : ∀ k : Nat, k < m → ∀ w', YSpec Tryd.prog yl #[.int .i64 ((m : Int) - 1 - (k : Int)), .int .u8 (xs.getD (m - 1 - k) 0)] B w' [Y k] (fun v H' => (v = .bool true ∧ H' = [Y (k + 1)]) ∨ (v = .bool false ∧ H' = [Z]))) : Spec Tryd.prog 155 #[(.func (.yield yl) #[] #[]), (.pointer (some ⟨c1, 0, none⟩))] B w [blk b0 (.cells C e (C.size, C.size + 1)), blk c1 (.cells [(.slice ((some ⟨b0, 0, none⟩ : Option Addr).map (·.add (8 * q * 1))) m m)].toArray 121 (0, 0)), Y 0] (fun v H' => v = .tuple #[] ∧ (H' = [blk b0 (.cells C e (C.size, C.size + 1)), blk c1 (.cells [(.slice ((some ⟨b0, 0, none⟩ : Option Addr).map (·.add (8 * q * 1))) m m)].toArray 121 (0, 0)), Y m] ∨ H' = [blk b0 (.cells C e (C.size, C.size + 1)), blk c1 (.cells [(.slice ((some ⟨b0, 0, none⟩ : Option Addr).map (·.add (8 * q * 1))) m m)].toArray 121 (0, 0)), Z])) := by
 refine spec_W Tryd.func155 rfl fun l0 hs => ?_
 refine W.sr fun K1 hK1 => ?_
 refine zL ⟨c1, 0, none⟩ (.slice ((some ⟨b0, 0, none⟩ : Option Addr).map (·.add (8 * q * 1))) m m) (hs.cellAt 1 rfl rfl) ?_
 refine zR 1 ?_
 refine ops_val (v := .int .i64 (IntKind.i64.wrap ((m : Int) - 1))) (v' := .int .i64 ((m : Int) - 1 - ((0 : Nat) : Int))) (by kernel_rfl) (congrArg (Value.int .i64) ((wrap_i64 (by omega) (by omega)).trans (by omega))) ?_
 refine zE 1 (hK1 _ _ ?_)
 refine W.block ?_
 refine W.loop (G := Nat) (fun | k, s_, w_ => (∃ us, s_ = slots 19 [(0, (.func (.yield yl) #[] #[])), (1, (.pointer (some ⟨c1, 0, none⟩))), (3, (.int .i64 ((m : Int) - 1 - (k : Int))))] us) ∧ St B w l0 w_ [blk b0 (.cells C e (C.size, C.size + 1)), blk c1 (.cells [(.slice ((some ⟨b0, 0, none⟩ : Option Addr).map (·.add (8 * q * 1))) m m)].toArray 121 (0, 0)), Y k] ∧ (k ≤ m)) (fun k => m - k) 0 ⟨slots_intro _ (by kernel_rfl), hs, by omega⟩ ?_
 rintro k _ w2 ⟨⟨us, rfl⟩, hs3, hk0⟩
 refine W.seq fun K4 hK4 => ?_
 refine W.sr fun K5 hK5 => ?_
 refine zE 2 (hK5 _ _ ?_)
 refine W.cond (decide (((m : Int) - 1 - (k : Int)) ≥ 0)) (by kernel_rfl) (fun h6 => ?_) (fun h6 => ?_)
 ·
  have h6p := of_decide_eq_true h6
  refine W.skip ?_
  refine hK4 _ _ ?_
  refine W.seq fun K7 hK7 => ?_
  refine W.block ?_
  refine W.sr fun K8 hK8 => ?_
  refine zR 2 ?_
  refine zL ⟨c1, 0, none⟩ (.slice ((some ⟨b0, 0, none⟩ : Option Addr).map (·.add (8 * q * 1))) m m) (hs3.cellAt 1 rfl rfl) ?_
  refine zR 1 ?_
  have hkm_ : k < m := by omega
  refine ops_R (v := .pointer (some (adr ((some ⟨b0, 0, none⟩ : Option Addr).map (·.add (8 * q * 1))) ((m - 1 - k) * 1)))) (runs_index (a := ((some ⟨b0, 0, none⟩ : Option Addr).map (·.add (8 * q * 1)))) (n := m) (z := ((m : Int) - 1 - (k : Int))) (size := 1) (m - 1 - k) (by omega) (by omega) ⟨_, rfl⟩ (by kernel_rfl)) ?_
  refine zL (adr ((some ⟨b0, 0, none⟩ : Option Addr).map (·.add (8 * q * 1))) ((m - 1 - k) * 1)) (.int .u8 (xs.getD (m - 1 - k) 0)) (part_cell (hs3.heapAt 0 rfl) (hC (m - 1 - k) (by omega))) ?_
  have hs9 := St.f2 hs3
  refine ops_yield (pre := [Y k]) (l := yl) hs9 (by kernel_rfl) (by kernel_rfl) (hy k (by omega) _) ?_
  rintro _ _ w10 (⟨rfl, rfl⟩ | ⟨rfl, rfl⟩) hs11
  ·
   have hs12 : St B w l0 w10 [Y (k + 1), blk b0 (.cells C e (C.size, C.size + 1)), blk c1 (.cells [(.slice ((some ⟨b0, 0, none⟩ : Option Addr).map (·.add (8 * q * 1))) m m)].toArray 121 (0, 0))] := hs11
   refine zE 1 (hK8 _ _ ?_)
   refine W.cond_false false (by kernel_rfl) rfl ?_
   refine W.skip ?_
   refine normal_block ?_
   refine hK7 _ _ ?_
   refine W.region ?_
   refine zR 1 ?_
   refine ops_val (v := .int .i64 (IntKind.i64.wrap (((m : Int) - 1 - (k : Int)) - 1))) (v' := .int .i64 ((m : Int) - 1 - ((k + 1 : Nat) : Int))) (by kernel_rfl) (congrArg (Value.int .i64) ((wrap_i64 (by omega) (by omega)).trans (by omega))) ?_
   refine zE 1 ?_
   have hs13 := St.f2 hs12
   have hs14 := St.f2 hs13
   exact ⟨k + 1, ⟨slots_intro _ (by kernel_rfl), hs14, by omega⟩, by omega⟩
  ·
   have hs15 : St B w l0 w10 [Z, blk b0 (.cells C e (C.size, C.size + 1)), blk c1 (.cells [(.slice ((some ⟨b0, 0, none⟩ : Option Addr).map (·.add (8 * q * 1))) m m)].toArray 121 (0, 0))] := hs11
   refine zE 1 (hK8 _ _ ?_)
   refine W.cond_true true (by kernel_rfl) rfl ?_
   refine W.ret (ret_block (ret_seq (ret_seq (ret_block ?_))))
   have hs16 := St.f2 hs15
   have hs17 := St.f2 hs16
   refine ret_of (.tuple #[]) (by kernel_rfl) ⟨_, ⟨rfl, .inr rfl⟩, hs17⟩
 ·
  have h6p := of_decide_eq_false h6
  refine W.exit (exit_seq (exit_seq (exit_here ?_)))
  have hn_ : k = m := by omega
  subst hn_
  refine ret_ofN (.tuple #[]) (by kernel_rfl) ⟨_, ⟨rfl, .inl rfl⟩, hs3⟩

end Go.Proofs.YthimamnblklkbaaDoor

set_option linter.unusedVariables false
set_option maxRecDepth 20000
set_option maxHeartbeats 1000000
namespace Go.Proofs.YthimamnblklkbaaDoor
open Go Go.RowKit
set_option linter.unusedSimpArgs false
set_option linter.unusedVariables false

def rpack_J2 (tx_ : ByteArray) (k10 : ((List Int) × Nat × Int) → Option (List Int)) (p9 : Int) (q21 : List Int) (n22 : Nat) : Option (List Int) :=
 need (-9223372036854775808 ≤ (p9.tdiv 8) ∧ (p9.tdiv 8) ≤ 9223372036854775807) <|
need (-9223372036854775808 ≤ (p9.tdiv 8) ∧ (p9.tdiv 8) ≤ 9223372036854775807) <|
need (0 ≤ (p9.tdiv 8) ∧ (p9.tdiv 8) < (n22 : Int)) <|
need ((p9.tdiv 8).toNat < q21.length) <|
need (0 ≤ p9 ∧ p9 < (tx_.size : Int)) <|
need (0 ≤ (sbyte tx_ p9) ∧ (sbyte tx_ p9) ≤ 18446744073709551615) <|
need (-9223372036854775808 ≤ (8 * p9.tmod 8) ∧ (8 * p9.tmod 8) ≤ 9223372036854775807) <|
need (0 ≤ (8 * p9.tmod 8) ∧ (8 * p9.tmod 8) ≤ 18446744073709551615) <|
need (0 ≤ (8 * p9.tmod 8)) <|
need (0 ≤ (p9.tdiv 8) ∧ (p9.tdiv 8) < (n22 : Int)) <|
need ((p9.tdiv 8).toNat < q21.length) <|
need (-9223372036854775808 ≤ (p9 + 1) ∧ (p9 + 1) ≤ 9223372036854775807) <|
k10 ((q21.set ((p9.tdiv 8).toNat) (((q21.getD ((p9.tdiv 8).toNat) 0) + (shlK .u64 (sbyte tx_ p9) (8 * p9.tmod 8))) % 18446744073709551616)), n22, (p9 + 1))

def rpack_B0 (tx_ : ByteArray) (k10 : ((List Int) × Nat × Int) → Option (List Int)) (q7 : List Int) (n8 : Nat) (p9 : Int) : Option (List Int) :=
 if p9 < (tx_.size : Int) then (if p9.tmod 8 = 0 then (need (q7.length + 1 ≤ 1000000000) <|
need (n8 = q7.length) <|
rpack_J2 tx_ k10 p9 (q7 ++ [0]) ((q7 ++ [0]).length)) else (rpack_J2 tx_ k10 p9 q7 n8)) else (need (n8 = q7.length) <|
some q7)

def rpack_M (tx_ : ByteArray) : Option (List Int) :=
 iter (fun k_ s_ => rpack_B0 tx_ k_ s_.1 s_.2.1 s_.2.2) FUEL ([], 0, 0)

theorem rpack_walk {tx_ : ByteArray}  {r : List Int} (B : Nat) (w : World) (hm : rpack_M tx_ = some r) : Spec Tryd.prog 112 #[(.string tx_)] B w [] (fun v H' => ∃ a' c', v = .slice a' r.length c' ∧ H' = [kU64.row a' c' r]) := by
 refine spec_Q Tryd.func112 rfl fun hs => ?_
 unfold rpack_M at hm
 refine W.sr fun K1 hK1 => ?_
 refine zE 1 (hK1 _ _ ?_)
 refine W.sr fun K2 hK2 => ?_
 refine zE 1 (hK2 _ _ ?_)
 refine W.seq fun K3 hK3 => ?_
 refine W.sr fun K4 hK4 => ?_
 refine zE 1 (hK4 _ _ ?_)
 refine W.block ?_
 have hs14 := St.knil kU64 hs
 refine W.loop_iter (G := (List Int) × Nat × Int × (Option Addr) × Nat) (σ := (List Int) × Nat × Int) (fun | (q7, n8, p9, m5, m6) => (q7, n8, p9)) (fun | (q7, n8, p9, m5, m6), s_, w_ => (∃ us, s_ = slots 37 [(0, (.string tx_)), (3, (.slice m5 n8 m6)), (4, (.int .i64 p9))] us) ∧ St B w [] w_ [kU64.row m5 m6 q7]) ([], 0, 0, none, 0) ⟨slots_intro _ (by kernel_rfl), hs14⟩ hm ?_
 rintro k10 ih11 ⟨q7, n8, p9, m5, m6⟩ _ w12 ⟨⟨us, rfl⟩, hs13⟩ hm
 replace hm : rpack_B0 tx_ k10 q7 n8 p9 = some r := hm
 unfold rpack_B0 at hm
 refine W.seq fun K15 hK15 => ?_
 refine W.sr fun K16 hK16 => ?_
 refine zE 4 (hK16 _ _ ?_)
 refine W.cond (decide (p9 < (tx_.size : Int))) (by kernel_rfl) (fun h17 => ?_) (fun h17 => ?_)
 ·
  obtain ⟨h17p, hm⟩ := iY hm h17
  refine W.skip ?_
  refine hK15 _ _ ?_
  refine W.seq fun K18 hK18 => ?_
  refine W.block ?_
  refine W.seq_join (fun s_ w_ => ∃ (q21 : List Int) (n22 : Nat) (m19 : Option Addr) (m20 : Nat), (∃ us, s_ = slots 37 [(0, (.string tx_)), (3, (.slice m19 n22 m20)), (4, (.int .i64 p9))] us) ∧ St B w [] w_ [kU64.row m19 m20 q21] ∧ rpack_J2 tx_ k10 p9 q21 n22 = some r) ?_ ?_
  ·
   rintro _ w23 ⟨q21, n22, m19, m20, ⟨us, rfl⟩, hs24, hm⟩
   unfold rpack_J2 at hm
   have hs25 := hs24.drew
   have hs26 := St.tk0 hs25
   refine W.regionD [(0, 0), (0, 0), (2, 2), (0, 0), (0, 0), (16, 16), (40, 40), (64, 64), (0, 0), (0, 0), (768, 768), (1024, 1024), (0, 0), (4096, 4096), (8192, 8192), (16384, 16384), (34816, 34816), (65664, 65664), (262143, 5), (524287, 393216)] (fun w_ => St B w [] w_ []) (by kernel_rfl) hs26 ?_
   refine any_val (v := (.slice m19 n22 m20)) (v' := (.slice m19 n22 m20)) 0 (by kernel_rfl) (fun _ => by kernel_rfl) rfl hs26 ?_
   refine any_val (v := (.int .i64 p9)) (v' := (.int .i64 p9)) 1 (by kernel_rfl) (fun _ => by kernel_rfl) rfl hs26 ?_
   obtain ⟨h27, hm⟩ := need_some hm
   refine any_R (v := .int .i64 (p9.tdiv 8)) 2 (by kernel_rfl) (fun _ hS_ => runs_quo (k := .i64) (a := p9) (b := 8) (by kernel_rfl) (by decide) (wrap_i64 h27.1 h27.2)) hs26 ?_
   refine any_val (v := (.slice m19 n22 m20)) (v' := (.slice m19 n22 m20)) 3 (by kernel_rfl) (fun _ => by kernel_rfl) rfl hs26 ?_
   refine any_val (v := (.int .i64 p9)) (v' := (.int .i64 p9)) 4 (by kernel_rfl) (fun _ => by kernel_rfl) rfl hs26 ?_
   obtain ⟨h28, hm⟩ := need_some hm
   refine any_R (v := .int .i64 (p9.tdiv 8)) 5 (by kernel_rfl) (fun _ hS_ => runs_quo (k := .i64) (a := p9) (b := 8) (by kernel_rfl) (by decide) (wrap_i64 h28.1 h28.2)) hs26 ?_
   obtain ⟨h30, hm⟩ := need_some hm
   have hk29 := lt_toNat h30
   obtain ⟨h32, hm⟩ := need_some hm
   have hk31 := h32
   refine any_R 6 (by kernel_rfl) (fun _ hS_ => runs_index (a := m19) (n := n22) (z := (p9.tdiv 8)) (size := 1) ((p9.tdiv 8).toNat) (nat_of h30.1) hk29 (kU64.addr (St.kcells kU64 hs25 0 rfl) hk31) (by kernel_rfl)) hs26 ?_
   refine any_val (v := (.string tx_)) (v' := (.string tx_)) 8 (by kernel_rfl) (fun _ => by kernel_rfl) rfl hs26 ?_
   refine any_val (v := (.int .i64 p9)) (v' := (.int .i64 p9)) 9 (by kernel_rfl) (fun _ => by kernel_rfl) rfl hs26 ?_
   obtain ⟨h33, hm⟩ := need_some hm
   refine any_R (v := (.int .u8 (sbyte tx_ p9))) 10 (by kernel_rfl) (fun _ hS_ => runs_strIdx (b := tx_) (k := p9) h33 (by kernel_rfl)) hs26 ?_
   obtain ⟨h34, hm⟩ := need_some hm
   refine any_val (v := .int .u64 (IntKind.u64.wrap (sbyte tx_ p9))) (v' := .int .u64 (sbyte tx_ p9)) 11 (by kernel_rfl) (fun _ => by kernel_rfl) (congrArg (Value.int .u64) (wrap_u64 h34.1 (Int.lt_of_le_of_lt h34.2 (by decide)))) hs26 ?_
   refine any_val (v := (.int .i64 p9)) (v' := (.int .i64 p9)) 12 (by kernel_rfl) (fun _ => by kernel_rfl) rfl hs26 ?_
   refine any_val (v := (.int .i64 (p9.tmod 8))) (v' := (.int .i64 (p9.tmod 8))) 13 (by kernel_rfl) (fun _ => by kernel_rfl) rfl hs26 ?_
   obtain ⟨h35, hm⟩ := need_some hm
   refine any_val (v := .int .i64 (IntKind.i64.wrap (8 * p9.tmod 8))) (v' := .int .i64 (8 * p9.tmod 8)) 14 (by kernel_rfl) (fun _ => by kernel_rfl) (congrArg (Value.int .i64) (wrap_i64 h35.1 h35.2)) hs26 ?_
   obtain ⟨h36, hm⟩ := need_some hm
   refine any_val (v := .int .u64 (IntKind.u64.wrap (8 * p9.tmod 8))) (v' := .int .u64 (8 * p9.tmod 8)) 15 (by kernel_rfl) (fun _ => by kernel_rfl) (congrArg (Value.int .u64) (wrap_u64 h36.1 (Int.lt_of_le_of_lt h36.2 (by decide)))) hs26 ?_
   obtain ⟨h37, hm⟩ := need_some hm
   refine any_R (v := .int .u64 (shlK .u64 (sbyte tx_ p9) (8 * p9.tmod 8))) 16 (by kernel_rfl) (fun _ hS_ => runs_shift (b := true) (k := .u64) (x := (sbyte tx_ p9)) (y := (8 * p9.tmod 8)) (by kernel_rfl) h37) hs26 ?_
   refine any_step 7 (by kernel_rfl) (by kernel_rfl) ?_
   refine zL ((adr m19 (((p9.tdiv 8).toNat) * 1)).add 0) (.int .u64 (q21.getD ((p9.tdiv 8).toNat) 0)) (kU64.at (St.kcells kU64 hs25 0 rfl) hk31 0 0 rfl) ?_
   have hs38 := St.tk0 hs25
   refine ops_done (by kernel_rfl) ⟨hs38, ?_⟩
   refine any_val (v := .int .u64 (IntKind.u64.wrap ((q21.getD ((p9.tdiv 8).toNat) 0) + (shlK .u64 (sbyte tx_ p9) (8 * p9.tmod 8))))) (v' := .int .u64 (((q21.getD ((p9.tdiv 8).toNat) 0) + (shlK .u64 (sbyte tx_ p9) (8 * p9.tmod 8))) % 18446744073709551616)) 17 (by kernel_rfl) (fun _ => by kernel_rfl) (congrArg (Value.int .u64) (wrap_u64_mod _)) hs38 ?_
   obtain ⟨h40, hm⟩ := need_some hm
   have hk39 := lt_toNat h40
   obtain ⟨h42, hm⟩ := need_some hm
   have hk41 := h42
   refine any_R 18 (by kernel_rfl) (fun _ hS_ => runs_index (a := m19) (n := n22) (z := (p9.tdiv 8)) (size := 1) ((p9.tdiv 8).toNat) (nat_of h40.1) hk39 (kU64.addr (St.kcells kU64 hs25 0 rfl) hk41) (by kernel_rfl)) hs38 ?_
   refine any_step 19 (by kernel_rfl) (by kernel_rfl) ?_
   refine ops_storeK kU64 (j := 0) (vs := [(.int .u64 (((q21.getD ((p9.tdiv 8).toNat) 0) + (shlK .u64 (sbyte tx_ p9) (8 * p9.tmod 8))) % 18446744073709551616))]) 0 (((q21.getD ((p9.tdiv 8).toNat) 0) + (shlK .u64 (sbyte tx_ p9) (8 * p9.tmod 8))) % 18446744073709551616) hs25 hk41 (Nat.le_of_ble_eq_true rfl) (by simp) rfl rfl (by kernel_rfl) (fun w43 hs44 => ?_)
   have hs46 := St.tk0 hs44
   refine ops_done (by kernel_rfl) ⟨hs46, ?_⟩
   refine any_done (by kernel_rfl) ?_
   refine normal_block ?_
   refine hK18 _ _ ?_
   refine W.region ?_
   refine zR 1 ?_
   obtain ⟨h47, hm⟩ := need_some hm
   refine zI _ (wrap_i64 h47.1 h47.2) ?_
   refine zE 1 ?_
   refine loopAt_next ?_
   exact ih11 ((q21.set ((p9.tdiv 8).toNat) (((q21.getD ((p9.tdiv 8).toNat) 0) + (shlK .u64 (sbyte tx_ p9) (8 * p9.tmod 8))) % 18446744073709551616)), n22, (p9 + 1), m19, m20) _ _ ⟨slots_intro _ (by kernel_rfl), hs44⟩ hm
  ·
   refine W.sr fun K48 hK48 => ?_
   refine zE 3 (hK48 _ _ ?_)
   refine W.cond (decide (p9.tmod 8 = 0)) (by kernel_rfl) (fun h49 => ?_) (fun h49 => ?_)
   ·
    obtain ⟨h49p, hm⟩ := iY hm h49
    refine W.region ?_
    refine zR 1 ?_
    refine ops_new (fun b => .slice (some ⟨b, 0, none⟩) 1 1) (.cells [(.int .u64 0)].toArray 38 (0, 0)) hs13 (by kernel_rfl) (fun b52 w50 hs51 => ?_)
    have hs53 := St.f1 hs51
    obtain ⟨h58, hm⟩ := need_some hm
    obtain ⟨h59, hm⟩ := need_some hm
    refine ops_appendKn kU64 (bytes := 8) (a' := (some ⟨b52, 0, none⟩)) (c' := 1) (l := q7) (m := [0]) hs53 h59 rfl (by kernel_rfl) (by simp) (cells_blk (hs53.heapAt 1 rfl)) (by unfold maxLen; (try simp only [List.length_cons, List.length_nil]); omega) (by (try simp only [List.length_cons, List.length_nil]); omega) (fun a54 c55 w56 hs57 => ?_)
    refine zE 1 ?_
    have hs60 := St.tk1 hs57
    exact ⟨(q7 ++ [0]), ((q7 ++ [0]).length), a54, c55, slots_intro _ (by kernel_rfl), hs60, hm⟩
   ·
    obtain ⟨h49p, hm⟩ := iN hm h49
    refine W.skip ?_
    exact ⟨q7, n8, m5, m6, slots_intro _ (by kernel_rfl), hs13, hm⟩
 ·
  obtain ⟨h17p, hm⟩ := iN hm h17
  refine W.exit (exit_seq (exit_seq (exit_here ?_)))
  refine hK3 _ _ ?_
  refine W.sr fun K61 hK61 => ?_
  refine zE 2 (hK61 _ _ ?_)
  refine W.ret ?_
  obtain ⟨h62, hm⟩ := need_some hm
  obtain rfl := some_inj hm
  refine ret_of (.slice m5 n8 m6) (by kernel_rfl) ⟨_, ⟨m5, m6, (by rw [h62]), rfl⟩, hs13⟩

end Go.Proofs.YthimamnblklkbaaDoor

set_option linter.unusedVariables false
set_option maxRecDepth 20000
set_option maxHeartbeats 2000000
namespace Go.Proofs.YthimamnblklkbaaDoor
open Go Go.RowKit
set_option linter.unusedSimpArgs false
set_option linter.unusedVariables false

def opack_D27 (q25 : List Int) : Option (List Int) :=
 some q25

def opack_J3 (c22 : (List Int) → Option (List Int)) (q25 : List Int) (p72 : Int) : Option (List Int) :=
 need (q25.length + 1 ≤ 1000000000) <|
c22 (q25 ++ [p72])

def opack_D108 (c22 : (List Int) → Option (List Int)) (q25 : List Int) (p107 : Int) : Option (List Int) :=
 opack_J3 c22 q25 p107

def opack_R108 (tx_ : ByteArray) (k21 : Nat) (k99 : Nat) (c100 : Int → Option (List Int)) (p107 : Int) : Option (List Int) :=
 (some (((strNums tx_).drop (8 * k21)).getD ((partN tx_.size k21) - 1 - k99) 0)).bind fun r135 =>
need (0 ≤ r135 ∧ r135 ≤ 18446744073709551615) <|
c100 (bits .or .u64 (shlK .u64 p107 8) r135)

def opack_R27 (tx_ : ByteArray) (k21 : Nat) (c22 : (List Int) → Option (List Int)) (q25 : List Int) : Option (List Int) :=
 rounds (fun k_ c_ s_ => opack_R108 tx_ k21 k_ c_ s_) (fun s_ => opack_D108 c22 q25 s_) (partN tx_.size k21) 0 0

def opack_M (tx_ : ByteArray) : Option (List Int) :=
 need (tx_.size ≤ 1000000) <|
rounds (fun k_ c_ s_ => opack_R27 tx_ k_ c_ s_) (fun s_ => opack_D27 s_) ((tx_.size + 7) / 8) 0 ([])

theorem opack_walk {tx_ : ByteArray}  {r : List Int} (B : Nat) (w : World) (hm : opack_M tx_ = some r) : Spec Tryd.prog 105 #[(.string tx_)] B w [] (fun v H' => ∃ a' c', v = .slice a' r.length c' ∧ H' = [kU64.row a' c' r]) := by
 refine spec_Q Tryd.func105 rfl fun hs => ?_
 unfold opack_M at hm
 refine W.sr fun K1 hK1 => ?_
 refine zN [(.slice none 0 0)] 36 hs fun b4 w2 hs3 => ?_
 refine zD (hK1 _ _ ?_)
 refine W.seq fun K5 hK5 => ?_
 refine W.sr fun K6 hK6 => ?_
 refine zR 1 ?_
 refine ops_strBytes (b := tx_) (e := 5) hs3 (by kernel_rfl) (fun b7 c8 C9 w10 hc11 hC12 hs13 => ?_)
 refine ops_call0 hs13 (by kernel_rfl) (chunk_spec (ba := (some ⟨b7, 0, none⟩)) (bn := tx_.size) (bc := c8) B _) ?_
 rintro _ _ w16 ⟨b14, b15, rfl, rfl⟩ hs17
 have hs18 := St.ap2 hs17
 refine zD (hK6 _ _ ?_)
 refine W.block ?_
 obtain ⟨h19, hm⟩ := need_some hm
 refine W.norm (n := 25) (l := [(2, (.pointer (some ⟨b4, 0, none⟩))), (9, (.func (.func 154) #[] #[(.pointer (some ⟨b14, 0, none⟩)), (.pointer (some ⟨b15, 0, none⟩))]))]) (by kernel_rfl) (fun us20 => ?_)
 have hs26 := St.knil kU64 hs18
 have hs32 := St.f4 hs26
 have hs33 := St.f1 hs32
 have hs34 := St.f4 hs33
 have hs35 := St.f4 hs34
 have hs36 := St.f4 hs35
 have hF37 : rounds (fun k_ c_ s_ => opack_R27 tx_ k_ c_ s_) (fun s_ => opack_D27 s_) (((tx_.size + 7) / 8) - 0) 0 ([]) = some r := by rw [Nat.sub_zero]; exact hm
 clear hm
 refine W.roundsA (G := (List Int) × (Option Addr) × Nat) (GZ := Unit) (gf := 154) (lb := #[(.pointer (some ⟨b14, 0, none⟩)), (.pointer (some ⟨b15, 0, none⟩))]) ((tx_.size + 7) / 8) (fun k_ (q25, m23, m24) => rounds (fun k_ c_ s_ => opack_R27 tx_ k_ c_ s_) (fun s_ => opack_D27 s_) (((tx_.size + 7) / 8) - k_) k_ q25 = some r) (fun (q25, m23, m24) => [blk b7 (.cells C9 5 (C9.size, C9.size + 1)), kU64.row m23 m24 q25, blk b4 (.cells [(.slice m23 q25.length m24)].toArray 36 (0, 0))]) .ret (fun (_ : Unit) => False) (fun _ => []) [blk b14 (.cells [(.slice (some ⟨b7, 0, none⟩) tx_.size c8)].toArray 121 (0, 0)), blk b15 (.cells [(.int .i64 8)].toArray 3 (0, 0))] (fun k_ => #[(.slice ((some ⟨b7, 0, none⟩ : Option Addr).map (·.add (8 * k_ * 1))) (partN tx_.size k_) (partN tx_.size k_))]) (fun k_ l_ => slotsD 25 ((10, (.slice ((some ⟨b7, 0, none⟩ : Option Addr).map (·.add (8 * k_ * 1))) (partN tx_.size k_) (partN tx_.size k_))) :: [(2, (.pointer (some ⟨b4, 0, none⟩))), (9, (.func (.func 154) #[] #[(.pointer (some ⟨b14, 0, none⟩)), (.pointer (some ⟨b15, 0, none⟩))]))]) us20 (some l_) []) ([], none, 0) hF37 hs36 rfl (by kernel_rfl) (fun _ _ => by kernel_rfl) (fun _ => rfl) (fun a_ k_ l_ h1_ h2_ => ⟨rel_round1 (n := 25) (by decide) h1_ h2_, rfl⟩) (fun l_ => #[.func (.yield l_) #[] #[], (.pointer (some ⟨b14, 0, none⟩)), (.pointer (some ⟨b15, 0, none⟩))]) (fun _ => rfl) (fun l_ w_ Y_ Z_ hy_ => chunk1_spec (yl := l_) (Y := Y_) (Z := Z_) (hbc := hc11) (hbm := h19) (hy := fun k_ h_ w_ => hy_ k_ (by omega) w_) _ w_) ?_ ?_ ?_
 rotate_left
 ·
  rintro D31 w38 ⟨q25, m23, m24⟩ hF40 hs39
  replace hF40 : rounds (fun k_ c_ s_ => opack_R27 tx_ k_ c_ s_) (fun s_ => opack_D27 s_) (((tx_.size + 7) / 8) - ((tx_.size + 7) / 8)) ((tx_.size + 7) / 8) q25 = some r := hF40
  rw [rounds_end] at hF40
  have hm : opack_D27 q25 = some r := hF40
  clear hF40
  unfold opack_D27 at hm
  have hs41 : St B w [] w38 [blk D31 (.deferred (some [])), blk b14 (.cells [(.slice (some ⟨b7, 0, none⟩) tx_.size c8)].toArray 121 (0, 0)), blk b15 (.cells [(.int .i64 8)].toArray 3 (0, 0)), blk b7 (.cells C9 5 (C9.size, C9.size + 1)), kU64.row m23 m24 q25, blk b4 (.cells [(.slice m23 q25.length m24)].toArray 36 (0, 0))] := hs39
  refine normal_block ?_
  refine hK5 _ _ ?_
  refine W.sr fun K42 hK42 => ?_
  refine zL ⟨b4, 0, none⟩ (.slice m23 q25.length m24) (hs41.cellAt 5 rfl rfl) ?_
  have hs45 := St.f5 hs41
  refine ops_store (off := 0) (cs := [(.slice m23 q25.length m24)]) (vs := [(.slice m23 q25.length m24)]) hs45 (by kernel_rfl) (by simp) rfl (fun w43 hs44 => ?_)
  have hs46 : St B w [] w43 [blk b4 (.cells [(.slice m23 q25.length m24)].toArray 36 (0, 0)), blk D31 (.deferred (some [])), blk b14 (.cells [(.slice (some ⟨b7, 0, none⟩) tx_.size c8)].toArray 121 (0, 0)), blk b15 (.cells [(.int .i64 8)].toArray 3 (0, 0)), blk b7 (.cells C9 5 (C9.size, C9.size + 1)), kU64.row m23 m24 q25] := hs44
  refine zD (hK42 _ _ ?_)
  refine W.ret ?_
  obtain rfl := some_inj hm
  have hs47 := St.f5 hs46
  have hs48 := St.f5 hs47
  have hs49 := St.f5 hs48
  have hs50 := St.f5 hs49
  have hs51 := St.f4 hs50
  have hs52 := St.f5 hs51
  refine leave_mark (D := D31) (v := (.slice m23 q25.length m24)) hs52 (by kernel_rfl) (fun w53 hs54 => (resD_one rfl (.cell (ad := ⟨b4, 0, none⟩) (by kernel_rfl) (by kernel_rfl) (hs54.cellAt 0 rfl rfl)))) (fun w53 hs54 => ?_)
  have hs55 := St.f4 hs54
  have hs56 := St.tk1 hs55
  exact ⟨_, ⟨m23, m24, rfl, rfl⟩, hs56⟩
 ·
  rintro _ _ _ h_ _
  exact h_.elim
 ·
  rintro k21 hk57 rc29 l28 w58 ⟨q25, m23, m24⟩ hF62 lf59 hs60 K61 hK61
  replace hF62 : rounds (fun k_ c_ s_ => opack_R27 tx_ k_ c_ s_) (fun s_ => opack_D27 s_) (((tx_.size + 7) / 8) - k21) k21 q25 = some r := hF62
  rw [rounds_at hk57] at hF62
  obtain ⟨c22, hc22⟩ : ∃ c_, c_ = rounds (fun k_ c_ s_ => opack_R27 tx_ k_ c_ s_) (fun s_ => opack_D27 s_) (((tx_.size + 7) / 8) - (k21 + 1)) (k21 + 1) := ⟨_, rfl⟩
  rw [← hc22] at hF62
  have hm : opack_R27 tx_ k21 c22 q25 = some r := hF62
  clear hF62
  unfold opack_R27 at hm
  refine W.region ?_
  refine zE 1 ?_
  refine hK61 _ _ hs60 (fun w63 hs64 => ?_)
  refine W.block ?_
  refine W.sr fun K65 hK65 => ?_
  refine zN [(.int .u64 0)] 38 hs64 fun b68 w66 hs67 => ?_
  refine ops_store (off := 0) (cs := [(.int .u64 0)]) (vs := [(.int .u64 0)]) hs67 (by kernel_rfl) (by simp) rfl (fun w69 hs70 => ?_)
  have hs71 : St B w58 lf59 w69 [blk b68 (.cells [(.int .u64 0)].toArray 38 (0, 0)), blk l28 (.loop { rc29 with state := .busy }), blk b7 (.cells C9 5 (C9.size, C9.size + 1)), kU64.row m23 m24 q25, blk b4 (.cells [(.slice m23 q25.length m24)].toArray 36 (0, 0))] := hs70
  refine zD (hK65 _ _ ?_)
  refine W.seq_join (fun s_ w_ => ∃ (p72 : Int), (∃ us, s_ = slotsD 25 [(2, (.pointer (some ⟨b4, 0, none⟩))), (4, (.pointer (some ⟨b68, 0, none⟩)))] us (some l28) []) ∧ St B w58 lf59 w_ [kU64.row m23 m24 q25, blk b4 (.cells [(.slice m23 q25.length m24)].toArray 36 (0, 0)), blk b68 (.cells [(.int .u64 p72)].toArray 38 (0, 0)), blk l28 (.loop { rc29 with state := .busy }), blk b7 (.cells C9 5 (C9.size, C9.size + 1))] ∧ opack_J3 c22 q25 p72 = some r) ?_ ?_
  ·
   rintro _ w73 ⟨p72, ⟨us, rfl⟩, hs74, hm⟩
   unfold opack_J3 at hm
   refine W.region ?_
   refine zL ⟨b4, 0, none⟩ (.slice m23 q25.length m24) (hs74.cellAt 1 rfl rfl) ?_
   refine zL ⟨b68, 0, none⟩ (.int .u64 p72) (hs74.cellAt 2 rfl rfl) ?_
   refine ops_new (fun b => .slice (some ⟨b, 0, none⟩) 1 1) (.cells [(.int .u64 p72)].toArray 38 (0, 0)) hs74 (by kernel_rfl) (fun b77 w75 hs76 => ?_)
   have hs78 := St.f1 hs76
   obtain ⟨h83, hm⟩ := need_some hm
   refine ops_appendK kU64 (bytes := 8) (a' := (some ⟨b77, 0, none⟩)) (c' := 1) (l := q25) (m := [p72]) hs78 (by kernel_rfl) (by simp) (cells_blk (hs78.heapAt 1 rfl)) (by unfold maxLen; (try simp only [List.length_cons, List.length_nil]); omega) (by (try simp only [List.length_cons, List.length_nil]); omega) (fun a79 c80 w81 hs82 => ?_)
   have hs86 := St.f2 hs82
   refine ops_store (off := 0) (cs := [(.slice m23 q25.length m24)]) (vs := [(.slice a79 ((q25 ++ [p72]).length) c80)]) hs86 (by kernel_rfl) (by simp) rfl (fun w84 hs85 => ?_)
   have hs87 : St B w58 lf59 w84 [blk b4 (.cells [(.slice a79 ((q25 ++ [p72]).length) c80)].toArray 36 (0, 0)), kU64.row a79 c80 (q25 ++ [p72]), blk b77 (.cells [(.int .u64 p72)].toArray 38 (0, 0)), blk b68 (.cells [(.int .u64 p72)].toArray 38 (0, 0)), blk l28 (.loop { rc29 with state := .busy }), blk b7 (.cells C9 5 (C9.size, C9.size + 1))] := hs85
   refine zD ?_
   refine normal_block ?_
   have hs88 := St.f1 hs87
   have hs89 := St.f5 hs88
   have hs90 := St.f5 hs89
   have hs91 := St.tk4 hs90
   rw [hc22] at hm
   exact ⟨((q25 ++ [p72]), a79, c80), hm, hs91⟩
  ·
   refine W.sr fun K92 hK92 => ?_
   refine zR 1 ?_
   refine ops_call0 hs71 (by kernel_rfl) (back_spec (ba := ((some ⟨b7, 0, none⟩ : Option Addr).map (·.add (8 * k21 * 1)))) (bn := (partN tx_.size k21)) (bc := (partN tx_.size k21)) B _) ?_
   rintro _ _ w94 ⟨b93, rfl, rfl⟩ hs95
   have hs96 := St.ap1 hs95
   refine zD (hK92 _ _ ?_)
   refine W.block ?_
   have hp97 := part_pos (n := tx_.size) (k := k21) (by omega)
   refine W.normD (n := 25) (r := some l28) (d := []) (l := [(2, (.pointer (some ⟨b4, 0, none⟩))), (4, (.pointer (some ⟨b68, 0, none⟩))), (12, (.func (.func 155) #[] #[(.pointer (some ⟨b93, 0, none⟩))]))]) (by kernel_rfl) (fun us98 => ?_)
   have hs101 := St.f2 hs96
   have hs102 := St.f5 hs101
   have hs103 := St.f5 hs102
   have hs104 := St.f4 hs103
   have hs105 := St.f4 hs104
   have hs106 := St.f5 hs105
   have hs113 := St.f5 hs106
   have hs114 := St.f5 hs113
   have hs115 := St.f5 hs114
   have hs116 := St.f5 hs115
   have hs117 := St.f5 hs116
   have hs118 := St.f5 hs117
   have hF119 : rounds (fun k_ c_ s_ => opack_R108 tx_ k21 k_ c_ s_) (fun s_ => opack_D108 c22 q25 s_) ((partN tx_.size k21) - 0) 0 0 = some r := by rw [Nat.sub_zero]; exact hm
   clear hm
   refine W.roundsIn (G := Int) (GZ := Unit) (gf := 155) (lb := #[(.pointer (some ⟨b93, 0, none⟩))]) (partN tx_.size k21) (fun k_ p107 => rounds (fun k_ c_ s_ => opack_R108 tx_ k21 k_ c_ s_) (fun s_ => opack_D108 c22 q25 s_) ((partN tx_.size k21) - k_) k_ p107 = some r) (fun p107 => [blk b68 (.cells [(.int .u64 p107)].toArray 38 (0, 0)), kU64.row m23 m24 q25, blk b4 (.cells [(.slice m23 q25.length m24)].toArray 36 (0, 0))]) .ret (fun (_ : Unit) => False) (fun _ => []) [blk b7 (.cells C9 5 (C9.size, C9.size + 1)), blk b93 (.cells [(.slice ((some ⟨b7, 0, none⟩ : Option Addr).map (·.add (8 * k21 * 1))) (partN tx_.size k21) (partN tx_.size k21))].toArray 121 (0, 0))] (fun k_ => #[(.int .i64 (((partN tx_.size k21) : Int) - 1 - (k_ : Int))), (.int .u8 (((strNums tx_).drop (8 * k21)).getD ((partN tx_.size k21) - 1 - k_) 0))]) (fun k_ l_ => slotsD 25 ((14, (.int .u8 (((strNums tx_).drop (8 * k21)).getD ((partN tx_.size k21) - 1 - k_) 0))) :: (13, (.int .i64 (((partN tx_.size k21) : Int) - 1 - (k_ : Int)))) :: [(2, (.pointer (some ⟨b4, 0, none⟩))), (4, (.pointer (some ⟨b68, 0, none⟩))), (12, (.func (.func 155) #[] #[(.pointer (some ⟨b93, 0, none⟩))]))]) us98 (some l_) []) 0 hF119 hs118 rfl (by kernel_rfl) (fun _ _ => by kernel_rfl) (fun _ => rfl) (fun a_ k_ l_ h1_ h2_ => ⟨rel_round2 (n := 25) (by decide) (by decide) h1_ h2_, rfl⟩) (fun l_ => #[.func (.yield l_) #[] #[], (.pointer (some ⟨b93, 0, none⟩))]) (fun _ => rfl) (fun l_ w_ Y_ Z_ hy_ => back1_spec (yl := l_) (q := k21) (Y := Y_) (Z := Z_) (hm := hp97.2.1) (hC := drop_bytes hC12 (by omega)) (hy := fun k_ h_ w_ => hy_ k_ h_ w_) _ w_) ?_ ?_ ?_
   rotate_left
   ·
    rintro  w120 p107 hF122 hs121
    replace hF122 : rounds (fun k_ c_ s_ => opack_R108 tx_ k21 k_ c_ s_) (fun s_ => opack_D108 c22 q25 s_) ((partN tx_.size k21) - (partN tx_.size k21)) (partN tx_.size k21) p107 = some r := hF122
    rw [rounds_end] at hF122
    have hm : opack_D108 c22 q25 p107 = some r := hF122
    clear hF122
    unfold opack_D108 at hm
    have hs123 : St B w58 lf59 w120 [blk b7 (.cells C9 5 (C9.size, C9.size + 1)), blk b93 (.cells [(.slice ((some ⟨b7, 0, none⟩ : Option Addr).map (·.add (8 * k21 * 1))) (partN tx_.size k21) (partN tx_.size k21))].toArray 121 (0, 0)), blk b68 (.cells [(.int .u64 p107)].toArray 38 (0, 0)), kU64.row m23 m24 q25, blk b4 (.cells [(.slice m23 q25.length m24)].toArray 36 (0, 0)), blk l28 (.loop { rc29 with state := .busy })] := hs121
    refine normal_block ?_
    have hs124 := St.f5 hs123
    have hs125 := St.f3 hs124
    have hs126 := St.f5 hs125
    have hs127 := St.f5 hs126
    have hs128 := St.tk5 hs127
    exact ⟨p107, slotsD_intro _ (by kernel_rfl), hs128, hm⟩
   ·
    rintro _ _ h_ _
    exact h_.elim
   ·
    rintro k99 hk129 rc110 l109 w130 p107 hF134 lf131 hs132 K133 hK133
    replace hF134 : rounds (fun k_ c_ s_ => opack_R108 tx_ k21 k_ c_ s_) (fun s_ => opack_D108 c22 q25 s_) ((partN tx_.size k21) - k99) k99 p107 = some r := hF134
    rw [rounds_at hk129] at hF134
    obtain ⟨c100, hc100⟩ : ∃ c_, c_ = rounds (fun k_ c_ s_ => opack_R108 tx_ k21 k_ c_ s_) (fun s_ => opack_D108 c22 q25 s_) ((partN tx_.size k21) - (k99 + 1)) (k99 + 1) := ⟨_, rfl⟩
    rw [← hc100] at hF134
    have hm : opack_R108 tx_ k21 k99 c100 p107 = some r := hF134
    clear hF134
    unfold opack_R108 at hm
    refine W.region ?_
    refine zR 1 ?_
    obtain ⟨r135, h136, hm⟩ := bind_some hm
    replace h136 := some_inj h136
    refine ops_set 6 (v := .int .u8 r135) (Eq.trans (by kernel_rfl) (congrArg (Value.int .u8) h136)) ?_
    refine zD ?_
    refine hK133 _ _ hs132 (fun w137 hs138 => ?_)
    refine W.block ?_
    refine W.region ?_
    refine zL ⟨b68, 0, none⟩ (.int .u64 p107) (hs138.cellAt 1 rfl rfl) ?_
    refine zR 2 ?_
    obtain ⟨h139, hm⟩ := need_some hm
    refine zI _ (wrap_u64 h139.1 (Int.lt_of_le_of_lt h139.2 (by decide))) ?_
    refine zR 1 ?_
    have hs142 := St.f1 hs138
    refine ops_store (off := 0) (cs := [(.int .u64 p107)]) (vs := [(.int .u64 (bits .or .u64 (shlK .u64 p107 8) r135))]) hs142 (by kernel_rfl) (by simp) rfl (fun w140 hs141 => ?_)
    have hs143 : St B w130 lf131 w140 [blk b68 (.cells [(.int .u64 (bits .or .u64 (shlK .u64 p107 8) r135))].toArray 38 (0, 0)), blk l109 (.loop { rc110 with state := .busy }), kU64.row m23 m24 q25, blk b4 (.cells [(.slice m23 q25.length m24)].toArray 36 (0, 0))] := hs141
    refine zD ?_
    refine normal_block ?_
    have hs144 := St.f3 hs143
    have hs145 := St.f3 hs144
    have hs146 := St.f2 hs145
    have hs147 := St.f3 hs146
    rw [hc100] at hm
    exact ⟨(bits .or .u64 (shlK .u64 p107 8) r135), hm, hs147⟩

end Go.Proofs.YthimamnblklkbaaDoor

set_option linter.unusedVariables false
set_option maxRecDepth 20000
namespace Go.Proofs.YthimamnblklkbaaDoor
open Go Go.RowKit
set_option linter.unusedSimpArgs false
set_option linter.unusedVariables false

def rmay10_M (re_ : Int) (rs_ : ByteArray) : Option (Bool) :=
 if re_ ≥ 0 then (if re_ ≤ 24 then (some (decide ((rs_.size : Int) ≤ 64))) else (some false)) else (some false)

theorem rmay10_walk {re_ : Int} {ra_ : Int} {rb_ : Int} {rs_ : ByteArray}  {r : Bool} (B : Nat) (w : World) (hm : rmay10_M re_ rs_ = some r) : Spec Tryd.prog 43 #[(.agg #[(.int .i64 re_), (.int .u64 ra_), (.int .u64 rb_), (.string rs_)])] B w [] (fun v H' => v = .bool r ∧ H' = []) := by
 refine spec_Q Tryd.func43 rfl fun hs => ?_
 unfold rmay10_M at hm
 refine W.sr fun K1 hK1 => ?_
 refine zN [(.int .i64 re_), (.int .u64 ra_), (.int .u64 rb_), (.string rs_)] 46 hs fun b4 w2 hs3 => ?_
 refine zE 1 (hK1 _ _ ?_)
 refine W.sr fun K5 hK5 => ?_
 refine zR 1 ?_
 refine zL ⟨b4, 0, none⟩ (.int .i64 re_) (hs3.cellAt 0 rfl rfl) ?_
 refine zR 2 ?_
 rcases Bool.eq_false_or_eq_true (decide (re_ ≥ 0)) with h6 | h6
 ·
  obtain ⟨h6p, hm⟩ := iY hm h6
  refine zS 6 h6 ?_
  refine zS 5 h6 ?_
  refine zR 1 ?_
  refine zL ⟨b4, 0, none⟩ (.int .i64 re_) (hs3.cellAt 0 rfl rfl) ?_
  refine zR 3 ?_
  rcases Bool.eq_false_or_eq_true (decide (re_ ≤ 24)) with h7 | h7
  ·
   obtain ⟨h7p, hm⟩ := iY hm h7
   refine zS 11 h7 ?_
   refine zS 9 h7 ?_
   refine zS 10 h7 ?_
   refine zR 1 ?_
   refine zL ⟨b4, 3, none⟩ (.string rs_) (hs3.cellAt 0 rfl rfl) ?_
   refine zE 4 (hK5 _ _ ?_)
   refine W.ret ?_
   obtain rfl := some_inj hm
   have hs8 := St.tk0 hs3
   refine ret_of (.bool (decide ((rs_.size : Int) ≤ 64))) (by kernel_rfl) ⟨_, ⟨rfl, rfl⟩, hs8⟩
  ·
   obtain ⟨h7p, hm⟩ := iN hm h7
   refine zS 11 h7 ?_
   refine zS 9 h7 ?_
   refine zS 10 h7 ?_
   refine zE 6 (hK5 _ _ ?_)
   refine W.ret ?_
   obtain rfl := some_inj hm
   have hs9 := St.tk0 hs3
   refine ret_of (.bool false) (by kernel_rfl) ⟨_, ⟨rfl, rfl⟩, hs9⟩
 ·
  obtain ⟨h6p, hm⟩ := iN hm h6
  refine zS 6 h6 ?_
  refine zS 5 h6 ?_
  refine zE 11 (hK5 _ _ ?_)
  refine W.ret ?_
  obtain rfl := some_inj hm
  have hs10 := St.tk0 hs3
  refine ret_of (.bool false) (by kernel_rfl) ⟨_, ⟨rfl, rfl⟩, hs10⟩

def smay10_M (re_ : Int) (rs_ : ByteArray) : Option (Bool) :=
 if re_ ≥ 0 then (if re_ ≤ 24 then (some (decide ((rs_.size : Int) ≤ 64))) else (some false)) else (some false)

theorem smay10_walk {re_ : Int} {ra_ : Int} {rb_ : Int} {rs_ : ByteArray}  {r : Bool} (B : Nat) (w : World) (hm : smay10_M re_ rs_ = some r) : Spec Tryd.prog 42 #[(.agg #[(.int .i64 re_), (.int .u64 ra_), (.int .u64 rb_), (.string rs_)])] B w [] (fun v H' => v = .bool r ∧ H' = []) := by
 refine spec_Q Tryd.func42 rfl fun hs => ?_
 unfold smay10_M at hm
 refine W.sr fun K1 hK1 => ?_
 refine zN [(.int .i64 re_), (.int .u64 ra_), (.int .u64 rb_), (.string rs_)] 46 hs fun b4 w2 hs3 => ?_
 refine zE 1 (hK1 _ _ ?_)
 refine W.sr fun K5 hK5 => ?_
 refine zR 1 ?_
 refine zL ⟨b4, 0, none⟩ (.int .i64 re_) (hs3.cellAt 0 rfl rfl) ?_
 refine zR 2 ?_
 rcases Bool.eq_false_or_eq_true (decide (re_ ≥ 0)) with h6 | h6
 ·
  obtain ⟨h6p, hm⟩ := iY hm h6
  refine zS 6 h6 ?_
  refine zS 5 h6 ?_
  refine zR 1 ?_
  refine zL ⟨b4, 0, none⟩ (.int .i64 re_) (hs3.cellAt 0 rfl rfl) ?_
  refine zR 3 ?_
  rcases Bool.eq_false_or_eq_true (decide (re_ ≤ 24)) with h7 | h7
  ·
   obtain ⟨h7p, hm⟩ := iY hm h7
   refine zS 11 h7 ?_
   refine zS 9 h7 ?_
   refine zS 10 h7 ?_
   refine zR 1 ?_
   refine zL ⟨b4, 3, none⟩ (.string rs_) (hs3.cellAt 0 rfl rfl) ?_
   refine zE 4 (hK5 _ _ ?_)
   refine W.ret ?_
   obtain rfl := some_inj hm
   have hs8 := St.tk0 hs3
   refine ret_of (.bool (decide ((rs_.size : Int) ≤ 64))) (by kernel_rfl) ⟨_, ⟨rfl, rfl⟩, hs8⟩
  ·
   obtain ⟨h7p, hm⟩ := iN hm h7
   refine zS 11 h7 ?_
   refine zS 9 h7 ?_
   refine zS 10 h7 ?_
   refine zE 6 (hK5 _ _ ?_)
   refine W.ret ?_
   obtain rfl := some_inj hm
   have hs9 := St.tk0 hs3
   refine ret_of (.bool false) (by kernel_rfl) ⟨_, ⟨rfl, rfl⟩, hs9⟩
 ·
  obtain ⟨h6p, hm⟩ := iN hm h6
  refine zS 6 h6 ?_
  refine zS 5 h6 ?_
  refine zE 11 (hK5 _ _ ?_)
  refine W.ret ?_
  obtain rfl := some_inj hm
  have hs10 := St.tk0 hs3
  refine ret_of (.bool false) (by kernel_rfl) ⟨_, ⟨rfl, rfl⟩, hs10⟩

end Go.Proofs.YthimamnblklkbaaDoor

set_option linter.unusedVariables false
set_option maxRecDepth 20000
set_option maxHeartbeats 2000000
namespace Go.Proofs.YthimamnblklkbaaDoor
open Go Go.RowKit
set_option linter.unusedSimpArgs false
set_option linter.unusedVariables false

def ssave_J2 (img : List Int) (l : List (Int × Int)) (q_ : Int) (r6 : Int × Int) (q64 : List (Int × Int)) : Option (Int × List (Int × Int)) :=
 need ((q64 : List (Int × Int)).length + 1 ≤ 1000000) <|
(some (vsets img l (q64 ++ [(r6.1, q_)]))).bind fun r85 =>
need (((q64 ++ [(r6.1, q_)]) : List (Int × Int)).length ≤ 1000000) <|
some (r85.1, r85.2)

def ssave_B0 (img : List Int) (l : List (Int × Int)) (q_ : Int) (r6 : Int × Int) (r98 : List Int) (k115 : ((List (Int × Int)) × Int) → Option (Int × List (Int × Int))) (q113 : List (Int × Int)) (p114 : Int) : Option (Int × List (Int × Int)) :=
 if p114 < (r98.length : Int) then (need (0 ≤ p114 ∧ p114 < (r98.length : Int)) <|
need (-9223372036854775808 ≤ (r6.1 + 4) ∧ (r6.1 + 4) ≤ 9223372036854775807) <|
need (-9223372036854775808 ≤ ((r6.1 + 4) + p114) ∧ ((r6.1 + 4) + p114) ≤ 9223372036854775807) <|
need ((q113 : List (Int × Int)).length + 1 ≤ 1000000) <|
need (-9223372036854775808 ≤ (p114 + 1) ∧ (p114 + 1) ≤ 9223372036854775807) <|
k115 ((q113 ++ [(((r6.1 + 4) + p114), (r98.getD p114.toNat 0))]), (p114 + 1))) else (ssave_J2 img l q_ r6 q113)

def ssave_J1 (img : List Int) (l : List (Int × Int)) (k_ : Int) (q_ : Int) (re_ : Int) (ra_ : Int) (rb_ : Int) (rs_ : ByteArray) (r6 : Int × Int) (p17 : Bool) : Option (Int × List (Int × Int)) :=
 if p17 = true then (some (1, l)) else (if r6.2 = 0 then (need (-9223372036854775808 ≤ (r6.1 + 1) ∧ (r6.1 + 1) ≤ 9223372036854775807) <|
need (0 ≤ re_ ∧ re_ ≤ 18446744073709551615) <|
need (0 ≤ (rs_.size : Int) ∧ (rs_.size : Int) ≤ 18446744073709551615) <|
need (-9223372036854775808 ≤ (r6.1 + 2) ∧ (r6.1 + 2) ≤ 9223372036854775807) <|
need (-9223372036854775808 ≤ (r6.1 + 3) ∧ (r6.1 + 3) ≤ 9223372036854775807) <|
(opack_M rs_).bind fun r98 =>
iter (fun k_ s_ => ssave_B0 img l q_ r6 r98 k_ s_.1 s_.2) FUEL ([((r6.1 + 1), ((re_ + ((256 * (rs_.size : Int)) % 18446744073709551616)) % 18446744073709551616)), ((r6.1 + 2), ra_), ((r6.1 + 3), rb_)], 0)) else (some (r6.2, l)))

def ssave_M (img : List Int) (l : List (Int × Int)) (i_ : Int) (k_ : Int) (q_ : Int) (re_ : Int) (ra_ : Int) (rb_ : Int) (rs_ : ByteArray) : Option (Int × List (Int × Int)) :=
 (sfind_M img i_ k_).bind fun r6 =>
if r6.2 = 2 then (some (r6.2, l)) else (if q_ < 1 then (ssave_J1 img l k_ q_ re_ ra_ rb_ rs_ r6 (decide (q_ < 1))) else (if q_ > 1099511627776 then (ssave_J1 img l k_ q_ re_ ra_ rb_ rs_ r6 (decide (q_ > 1099511627776))) else ((smay10_M re_ rs_).bind fun r166 =>
ssave_J1 img l k_ q_ re_ ra_ rb_ rs_ r6 (!r166))))

theorem ssave_walk {img : List Int} {l : List (Int × Int)} {i_ : Int} {k_ : Int} {q_ : Int} {re_ : Int} {ra_ : Int} {rb_ : Int} {rs_ : ByteArray} {vb : Nat} {r : Int × List (Int × Int)} (B : Nat) (w : World) (hG2 : 1 < B) (hL : CellsAt (some ⟨1, 0, none⟩) [(.int .i64 1), (.int .i64 2), (.int .i64 2)] w) (hm : ssave_M img l i_ k_ q_ re_ ra_ rb_ rs_ = some r) : Spec Tryd.prog 33 #[(.pointer (some ⟨vb, 0, none⟩)), (.int .i64 i_), (.int .i64 k_), (.int .u64 q_), (.agg #[(.int .i64 re_), (.int .u64 ra_), (.int .u64 rb_), (.string rs_)])] B w [viewA (ptr vb) img l] (fun v H' => v = (.int .i64 r.1) ∧ H' = [viewA (ptr vb) img r.2]) := by
 refine spec_W Tryd.func33 rfl fun l0 hs => ?_
 unfold ssave_M at hm
 refine W.sr fun K1 hK1 => ?_
 refine zN [(.int .i64 re_), (.int .u64 ra_), (.int .u64 rb_), (.string rs_)] 46 hs fun b4 w2 hs3 => ?_
 refine zE 1 (hK1 _ _ ?_)
 refine W.sr fun K5 hK5 => ?_
 refine zR 3 ?_
 obtain ⟨r6, h7, hm⟩ := bind_some hm
 refine zC00 hs3 (sfind_walk (i_ := i_) (k_ := k_) (img := img) (l := l) (hL := (hs3.oldCellsB hG2 hL)) (hv := (hs3.entAt 1 rfl viewA_at)) (hm := h7) B _) fun w8 hs10 => ?_
 refine zE 5 (hK5 _ _ ?_)
 refine W.seq fun K11 hK11 => ?_
 refine W.block ?_
 refine W.sr fun K12 hK12 => ?_
 refine zE 3 (hK12 _ _ ?_)
 refine W.cond (decide (r6.2 = 2)) (by kernel_rfl) (fun h13 => ?_) (fun h13 => ?_)
 ·
  obtain ⟨h13p, hm⟩ := iY hm h13
  refine W.sr fun K14 hK14 => ?_
  refine zE 2 (hK14 _ _ ?_)
  refine W.ret (ret_block (ret_seq ?_))
  obtain rfl := some_inj hm
  have hs15 := St.f1 hs10
  have hs16 := St.tk1 hs15
  refine ret_of (.int .i64 r6.2) (by kernel_rfl) ⟨_, ⟨rfl, rfl⟩, hs16⟩
 ·
  obtain ⟨h13p, hm⟩ := iN hm h13
  refine W.seq_join (fun s_ w_ => ∃ (p17 : Bool), (∃ us, s_ = slots 89 [(0, (.pointer (some ⟨vb, 0, none⟩))), (3, (.int .u64 q_)), (9, (.pointer (some ⟨b4, 0, none⟩))), (11, (.int .i64 r6.1)), (12, (.int .i64 r6.2)), (27, (.bool p17))] us) ∧ St B w l0 w_ [viewA (ptr vb) img l, blk b4 (.cells [(.int .i64 re_), (.int .u64 ra_), (.int .u64 rb_), (.string rs_)].toArray 46 (0, 0))] ∧ ssave_J1 img l k_ q_ re_ ra_ rb_ rs_ r6 p17 = some r) ?_ ?_
  ·
   rintro _ w18 ⟨p17, ⟨us, rfl⟩, hs19, hm⟩
   unfold ssave_J1 at hm
   refine W.cond p17 (by kernel_rfl) (fun h20 => ?_) (fun h20 => ?_)
   ·
    have h20p : p17 = true := h20
    replace hm := ite_yes hm h20p
    refine W.sr fun K21 hK21 => ?_
    refine zE 1 (hK21 _ _ ?_)
    refine W.ret (ret_block (ret_seq ?_))
    obtain rfl := some_inj hm
    have hs22 := St.tk1 hs19
    refine ret_of (.int .i64 1) (by kernel_rfl) ⟨_, ⟨rfl, rfl⟩, hs22⟩
   ·
    have h20p : ¬ (p17 = true) := ne_true_of_eq_false h20
    replace hm := ite_no hm h20p
    refine W.sr fun K23 hK23 => ?_
    refine zE 3 (hK23 _ _ ?_)
    refine W.cond (!decide (r6.2 = 0)) (by kernel_rfl) (fun h24 => ?_) (fun h24 => ?_)
    rotate_left
    ·
     have h24p : r6.2 = 0 := of_decide_eq_true (bnot_false h24)
     replace hm := ite_yes hm h24p
     refine W.skip ?_
     refine normal_block ?_
     refine hK11 _ _ ?_
     refine W.seq fun K25 hK25 => ?_
     have hs26 := hs19.drew
     refine W.regionD [(0, 0), (1, 1), (0, 0), (4, 4), (8, 8), (0, 0), (32, 32), (64, 64), (128, 128), (256, 256), (528, 528), (1026, 1026), (0, 0), (4096, 4096), (0, 0), (16384, 16384), (43008, 40960), (0, 0), (131072, 131072), (0, 0), (524288, 524288), (1376256, 1310720), (2164736, 2164736), (8388607, 4194304)] (fun w_ => St B w l0 w_ [viewA (ptr vb) img l, blk b4 (.cells [(.int .i64 re_), (.int .u64 ra_), (.int .u64 rb_), (.string rs_)].toArray 46 (0, 0))]) (by kernel_rfl) hs26 ?_
     refine any_val (v := (.int .i64 r6.1)) (v' := (.int .i64 r6.1)) 0 (by kernel_rfl) (fun _ => by kernel_rfl) rfl hs26 ?_
     obtain ⟨h27, hm⟩ := need_some hm
     refine any_val (v := .int .i64 (IntKind.i64.wrap (r6.1 + 1))) (v' := .int .i64 (r6.1 + 1)) 1 (by kernel_rfl) (fun _ => by kernel_rfl) (congrArg (Value.int .i64) (wrap_i64 h27.1 h27.2)) hs26 ?_
     refine any_val (v := (.pointer (some ⟨b4, 0, none⟩))) (v' := (.pointer (some ⟨b4, 0, none⟩))) 2 (by kernel_rfl) (fun _ => by kernel_rfl) rfl hs26 ?_
     refine any_R 3 (by kernel_rfl) (fun _ hS_ => runs_load (ad := ⟨b4, 0, none⟩) (v := (.int .i64 re_)) (by kernel_rfl) (hS_.cellAt 1 rfl rfl)) hs26 ?_
     obtain ⟨h28, hm⟩ := need_some hm
     refine any_val (v := .int .u64 (IntKind.u64.wrap re_)) (v' := .int .u64 re_) 4 (by kernel_rfl) (fun _ => by kernel_rfl) (congrArg (Value.int .u64) (wrap_u64 h28.1 (Int.lt_of_le_of_lt h28.2 (by decide)))) hs26 ?_
     refine any_val (v := (.pointer (some ⟨b4, 3, none⟩))) (v' := (.pointer (some ⟨b4, 3, none⟩))) 5 (by kernel_rfl) (fun _ => by kernel_rfl) rfl hs26 ?_
     refine any_R 6 (by kernel_rfl) (fun _ hS_ => runs_load (ad := ⟨b4, 3, none⟩) (v := (.string rs_)) (by kernel_rfl) (hS_.cellAt 1 rfl rfl)) hs26 ?_
     refine any_val (v := (.int .i64 (rs_.size : Int))) (v' := (.int .i64 (rs_.size : Int))) 7 (by kernel_rfl) (fun _ => by kernel_rfl) rfl hs26 ?_
     obtain ⟨h29, hm⟩ := need_some hm
     refine any_val (v := .int .u64 (IntKind.u64.wrap (rs_.size : Int))) (v' := .int .u64 (rs_.size : Int)) 8 (by kernel_rfl) (fun _ => by kernel_rfl) (congrArg (Value.int .u64) (wrap_u64 h29.1 (Int.lt_of_le_of_lt h29.2 (by decide)))) hs26 ?_
     refine any_val (v := .int .u64 (IntKind.u64.wrap (256 * (rs_.size : Int)))) (v' := .int .u64 ((256 * (rs_.size : Int)) % 18446744073709551616)) 9 (by kernel_rfl) (fun _ => by kernel_rfl) (congrArg (Value.int .u64) (wrap_u64_mod _)) hs26 ?_
     refine any_val (v := .int .u64 (IntKind.u64.wrap (re_ + ((256 * (rs_.size : Int)) % 18446744073709551616)))) (v' := .int .u64 ((re_ + ((256 * (rs_.size : Int)) % 18446744073709551616)) % 18446744073709551616)) 10 (by kernel_rfl) (fun _ => by kernel_rfl) (congrArg (Value.int .u64) (wrap_u64_mod _)) hs26 ?_
     refine any_val (v := (.int .i64 r6.1)) (v' := (.int .i64 r6.1)) 12 (by kernel_rfl) (fun _ => by kernel_rfl) rfl hs26 ?_
     obtain ⟨h30, hm⟩ := need_some hm
     refine any_val (v := .int .i64 (IntKind.i64.wrap (r6.1 + 2))) (v' := .int .i64 (r6.1 + 2)) 13 (by kernel_rfl) (fun _ => by kernel_rfl) (congrArg (Value.int .i64) (wrap_i64 h30.1 h30.2)) hs26 ?_
     refine any_val (v := (.pointer (some ⟨b4, 1, none⟩))) (v' := (.pointer (some ⟨b4, 1, none⟩))) 14 (by kernel_rfl) (fun _ => by kernel_rfl) rfl hs26 ?_
     refine any_R 15 (by kernel_rfl) (fun _ hS_ => runs_load (ad := ⟨b4, 1, none⟩) (v := (.int .u64 ra_)) (by kernel_rfl) (hS_.cellAt 1 rfl rfl)) hs26 ?_
     refine any_val (v := (.int .i64 r6.1)) (v' := (.int .i64 r6.1)) 17 (by kernel_rfl) (fun _ => by kernel_rfl) rfl hs26 ?_
     obtain ⟨h31, hm⟩ := need_some hm
     refine any_val (v := .int .i64 (IntKind.i64.wrap (r6.1 + 3))) (v' := .int .i64 (r6.1 + 3)) 18 (by kernel_rfl) (fun _ => by kernel_rfl) (congrArg (Value.int .i64) (wrap_i64 h31.1 h31.2)) hs26 ?_
     refine any_val (v := (.pointer (some ⟨b4, 2, none⟩))) (v' := (.pointer (some ⟨b4, 2, none⟩))) 19 (by kernel_rfl) (fun _ => by kernel_rfl) rfl hs26 ?_
     refine any_R 20 (by kernel_rfl) (fun _ hS_ => runs_load (ad := ⟨b4, 2, none⟩) (v := (.int .u64 rb_)) (by kernel_rfl) (hS_.cellAt 1 rfl rfl)) hs26 ?_
     refine any_step 11 (by kernel_rfl) (by kernel_rfl) ?_
     refine ops_call0 hs26 (by kernel_rfl) (word_spec (at_ := (r6.1 + 1)) (x_ := ((re_ + ((256 * (rs_.size : Int)) % 18446744073709551616)) % 18446744073709551616)) B _) ?_
     rintro _ _ w34 ⟨b32, b33, rfl, rfl⟩ hs35
     have hs36 := St.ap2 hs35
     have hs37 := St.f3 hs36
     have hs38 := St.f3 hs37
     have hs39 := St.tk2 hs38
     refine ops_done (by kernel_rfl) ⟨hs39, ?_⟩
     refine any_step 16 (by kernel_rfl) (by kernel_rfl) ?_
     refine ops_call0 hs36 (by kernel_rfl) (word_spec (at_ := (r6.1 + 2)) (x_ := ra_) B _) ?_
     rintro _ _ w42 ⟨b40, b41, rfl, rfl⟩ hs43
     have hs44 := St.ap2 hs43
     have hs45 := St.f5 hs44
     have hs46 := St.f5 hs45
     have hs47 := St.tk2 hs46
     refine ops_done (by kernel_rfl) ⟨hs47, ?_⟩
     refine any_step 21 (by kernel_rfl) (by kernel_rfl) ?_
     refine ops_call0 hs44 (by kernel_rfl) (word_spec (at_ := (r6.1 + 3)) (x_ := rb_) B _) ?_
     rintro _ _ w50 ⟨b48, b49, rfl, rfl⟩ hs51
     have hs52 := St.ap2 hs51
     have hs53 := St.f7 hs52
     have hs54 := St.f7 hs53
     have hs55 := St.tk2 hs54
     refine ops_done (by kernel_rfl) ⟨hs55, ?_⟩
     refine any_step 22 (by kernel_rfl) (by kernel_rfl) ?_
     refine ops_new (fun b => .slice (some ⟨b, 0, none⟩) 3 3) (.cells [(.func (.func 144) #[] #[(.pointer (some ⟨b32, 0, none⟩)), (.pointer (some ⟨b33, 0, none⟩))]), (.func (.func 144) #[] #[(.pointer (some ⟨b40, 0, none⟩)), (.pointer (some ⟨b41, 0, none⟩))]), (.func (.func 144) #[] #[(.pointer (some ⟨b48, 0, none⟩)), (.pointer (some ⟨b49, 0, none⟩))])].toArray 172 (0, 0)) hs52 (by kernel_rfl) (fun b58 w56 hs57 => ?_)
     have hs59 := St.f8 hs57
     have hs60 := St.f8 hs59
     have hs61 := St.tk2 hs60
     refine ops_done (by kernel_rfl) ⟨hs61, ?_⟩
     refine any_val (v := (.slice (some ⟨b58, 0, none⟩) 3 3)) (v' := (.slice (some ⟨b58, 0, none⟩) 3 3)) 23 (by kernel_rfl) (fun _ => by kernel_rfl) rfl hs61 ?_
     refine any_done (by kernel_rfl) ?_
     refine hK25 _ _ ?_
     refine W.seq_join (fun s_ w_ => ∃ (q64 : List (Int × Int)) (m62 : Option Addr) (m63 : Nat), (∃ us, s_ = slots 89 [(0, (.pointer (some ⟨vb, 0, none⟩))), (3, (.int .u64 q_)), (11, (.int .i64 r6.1)), (13, (.slice m62 q64.length m63))] us) ∧ St B w l0 w_ [viewA (ptr vb) img l, stepsA m62 m63 q64, blk b4 (.cells [(.int .i64 re_), (.int .u64 ra_), (.int .u64 rb_), (.string rs_)].toArray 46 (0, 0))] ∧ ssave_J2 img l q_ r6 q64 = some r) ?_ ?_
     ·
      rintro _ w65 ⟨q64, m62, m63, ⟨us, rfl⟩, hs66, hm⟩
      unfold ssave_J2 at hm
      refine W.sr fun K67 hK67 => ?_
      refine zR 4 ?_
      refine ops_call0 hs66 (by kernel_rfl) (word_spec (at_ := r6.1) (x_ := q_) B _) ?_
      rintro _ _ w70 ⟨b68, b69, rfl, rfl⟩ hs71
      have hs72 := St.ap2 hs71
      refine ops_new (fun b => .slice (some ⟨b, 0, none⟩) 1 1) (.cells [(.func (.func 144) #[] #[(.pointer (some ⟨b68, 0, none⟩)), (.pointer (some ⟨b69, 0, none⟩))])].toArray 172 (0, 0)) hs72 (by kernel_rfl) (fun b75 w73 hs74 => ?_)
      have hs76 := St.f2 hs74
      have hs77 := St.f2 hs76
      have hs78 := St.f2 hs77
      have hs79 := St.f4 hs78
      obtain ⟨h84, hm⟩ := need_some hm
      refine ops_appendSteps (bytes := 8) (a := m62) (c := m63) (sb := b75) (b1 := b68) (b2 := b69) (xs := q64) (x := r6.1) (y := q_) hs79 (by kernel_rfl) (by unfold maxLen; omega) (by omega) (fun a80 c81 w82 hs83 => ?_)
      obtain ⟨r85, h86, hm⟩ := bind_some hm
      replace h86 := some_inj h86
      obtain ⟨h87, hm⟩ := need_some hm
      have hs90 := St.f1 hs83
      refine ops_call2 hs90 (by kernel_rfl) (row_spec (b := vb) (img := img) (l := l) (a := a80) (c := c81) (n := (q64 ++ [(r6.1, q_)]).length) (xs := (q64 ++ [(r6.1, q_)])) (hn := rfl) (hsz := h87) B _) ?_
      rintro _ _ w91 ⟨hv88, hH89⟩ hs92
      rw [h86] at hv88
      try rw [h86] at hH89
      subst hv88 hH89
      have hs93 := St.ap1 hs92
      refine zE 1 (hK67 _ _ ?_)
      refine W.ret ?_
      obtain rfl := some_inj hm
      have hs94 := St.tk1 hs93
      refine ret_of (.int .i64 r85.1) (by kernel_rfl) ⟨_, ⟨rfl, rfl⟩, hs94⟩
     ·
      refine W.sr fun K95 hK95 => ?_
      refine zR 1 ?_
      refine zL ⟨b4, 3, none⟩ (.string rs_) (hs57.cellAt 8 rfl rfl) ?_
      obtain ⟨r98, h99, hm⟩ := bind_some hm
      refine ops_call0 hs57 (by kernel_rfl) (opack_walk (hm := h99) B _) ?_
      rintro _ _ w100 ⟨a96, c97, rfl, rfl⟩ hs101
      have hs102 := St.ap1 hs101
      refine zE 2 (hK95 _ _ ?_)
      refine W.block ?_
      have hs103 := St.f3 hs102
      have hs104 := St.f3 hs103
      have hs105 := St.f5 hs104
      have hs106 := St.f5 hs105
      have hs107 := St.f7 hs106
      have hs108 := St.f7 hs107
      have hs109 := St.f7 hs108
      have hs110 := St.steps_three hs109
      have hs119 := St.f3 hs110
      have hs120 := St.f2 hs119
      have hs121 := St.f2 hs120
      have hs122 := St.f3 hs121
      refine W.loop_iter (G := (List (Int × Int)) × Int × (Option Addr) × Nat) (σ := (List (Int × Int)) × Int) (fun | (q113, p114, m111, m112) => (q113, p114)) (fun | (q113, p114, m111, m112), s_, w_ => (∃ us, s_ = slots 89 [(0, (.pointer (some ⟨vb, 0, none⟩))), (3, (.int .u64 q_)), (11, (.int .i64 r6.1)), (13, (.slice m111 q113.length m112)), (64, (.slice a96 r98.length c97)), (65, (.int .i64 (r98.length : Int))), (66, (.int .i64 p114))] us) ∧ St B w l0 w_ [viewA (ptr vb) img l, stepsA m111 m112 q113, kU64.row a96 c97 r98, blk b4 (.cells [(.int .i64 re_), (.int .u64 ra_), (.int .u64 rb_), (.string rs_)].toArray 46 (0, 0))]) ([((r6.1 + 1), ((re_ + ((256 * (rs_.size : Int)) % 18446744073709551616)) % 18446744073709551616)), ((r6.1 + 2), ra_), ((r6.1 + 3), rb_)], 0, (some ⟨b58, 0, none⟩), 3) ⟨slots_intro _ (by kernel_rfl), hs122⟩ hm ?_
      rintro k115 ih116 ⟨q113, p114, m111, m112⟩ _ w117 ⟨⟨us, rfl⟩, hs118⟩ hm
      replace hm : ssave_B0 img l q_ r6 r98 k115 q113 p114 = some r := hm
      unfold ssave_B0 at hm
      refine W.sr fun K123 hK123 => ?_
      refine zE 1 (hK123 _ _ ?_)
      refine W.seq fun K124 hK124 => ?_
      refine W.cond (decide (p114 < (r98.length : Int))) (by kernel_rfl) (fun h125 => ?_) (fun h125 => ?_)
      ·
       obtain ⟨h125p, hm⟩ := iY hm h125
       refine W.skip ?_
       refine hK124 _ _ ?_
       refine W.seq fun K126 hK126 => ?_
       refine W.block ?_
       refine W.sr fun K127 hK127 => ?_
       refine zR 1 ?_
       obtain ⟨h129, hm⟩ := need_some hm
       have hk128 := lt_toNat h129
       refine ops_R (runs_index (a := a96) (n := r98.length) (z := p114) (size := 1) p114.toNat (nat_of h129.1) hk128 (kU64.addr (St.kcells kU64 hs118 2 rfl) hk128) (by kernel_rfl)) ?_
       refine zL ((adr a96 (p114.toNat * 1)).add 0) (.int .u64 (r98.getD p114.toNat 0)) (kU64.at (St.kcells kU64 hs118 2 rfl) hk128 0 0 rfl) ?_
       refine zE 2 (hK127 _ _ ?_)
       refine W.region ?_
       refine zR 2 ?_
       obtain ⟨h130, hm⟩ := need_some hm
       refine zI _ (wrap_i64 h130.1 h130.2) ?_
       refine zR 1 ?_
       obtain ⟨h131, hm⟩ := need_some hm
       refine zI _ (wrap_i64 h131.1 h131.2) ?_
       refine zR 1 ?_
       refine ops_call0 hs118 (by kernel_rfl) (word_spec (at_ := ((r6.1 + 4) + p114)) (x_ := (r98.getD p114.toNat 0)) B _) ?_
       rintro _ _ w134 ⟨b132, b133, rfl, rfl⟩ hs135
       have hs136 := St.ap2 hs135
       refine ops_new (fun b => .slice (some ⟨b, 0, none⟩) 1 1) (.cells [(.func (.func 144) #[] #[(.pointer (some ⟨b132, 0, none⟩)), (.pointer (some ⟨b133, 0, none⟩))])].toArray 172 (0, 0)) hs136 (by kernel_rfl) (fun b139 w137 hs138 => ?_)
       have hs140 := St.f2 hs138
       have hs141 := St.f2 hs140
       have hs142 := St.f2 hs141
       have hs143 := St.f4 hs142
       obtain ⟨h148, hm⟩ := need_some hm
       refine ops_appendSteps (bytes := 8) (a := m111) (c := m112) (sb := b139) (b1 := b132) (b2 := b133) (xs := q113) (x := ((r6.1 + 4) + p114)) (y := (r98.getD p114.toNat 0)) hs143 (by kernel_rfl) (by unfold maxLen; omega) (by omega) (fun a144 c145 w146 hs147 => ?_)
       refine zE 1 ?_
       refine normal_block ?_
       refine hK126 _ _ ?_
       refine W.region ?_
       obtain ⟨h149, hm⟩ := need_some hm
       refine zI _ (wrap_i64 h149.1 h149.2) ?_
       refine zE 1 ?_
       have hs150 := St.f3 hs147
       have hs151 := St.f3 hs150
       have hs152 := St.f2 hs151
       have hs153 := St.f3 hs152
       refine loopAt_next ?_
       exact ih116 ((q113 ++ [(((r6.1 + 4) + p114), (r98.getD p114.toNat 0))]), (p114 + 1), a144, c145) _ _ ⟨slots_intro _ (by kernel_rfl), hs153⟩ hm
      ·
       obtain ⟨h125p, hm⟩ := iN hm h125
       refine W.exit (exit_seq (exit_seq (exit_here ?_)))
       have hs154 := St.f3 hs118
       have hs155 := St.f2 hs154
       have hs156 := St.f2 hs155
       have hs157 := St.tk3 hs156
       exact ⟨q113, m111, m112, slots_intro _ (by kernel_rfl), hs157, hm⟩
    ·
     have h24p : ¬ (r6.2 = 0) := of_decide_eq_false (bnot_true h24)
     replace hm := ite_no hm h24p
     refine W.sr fun K158 hK158 => ?_
     refine zE 2 (hK158 _ _ ?_)
     refine W.ret (ret_block (ret_seq ?_))
     obtain rfl := some_inj hm
     have hs159 := St.tk1 hs19
     refine ret_of (.int .i64 r6.2) (by kernel_rfl) ⟨_, ⟨rfl, rfl⟩, hs159⟩
  ·
   refine W.sr fun K160 hK160 => ?_
   refine zE 3 (hK160 _ _ ?_)
   refine W.cond (decide (q_ < 1)) (by kernel_rfl) (fun h161 => ?_) (fun h161 => ?_)
   ·
    obtain ⟨h161p, hm⟩ := iY hm h161
    refine W.skip ?_
    have hs162 := St.f1 hs10
    exact ⟨(decide (q_ < 1)), slots_intro _ (by kernel_rfl), hs162, hm⟩
   ·
    obtain ⟨h161p, hm⟩ := iN hm h161
    refine W.sr fun K163 hK163 => ?_
    refine zE 3 (hK163 _ _ ?_)
    refine W.cond (decide (q_ > 1099511627776)) (by kernel_rfl) (fun h164 => ?_) (fun h164 => ?_)
    ·
     obtain ⟨h164p, hm⟩ := iY hm h164
     refine W.skip ?_
     have hs165 := St.f1 hs10
     exact ⟨(decide (q_ > 1099511627776)), slots_intro _ (by kernel_rfl), hs165, hm⟩
    ·
     obtain ⟨h164p, hm⟩ := iN hm h164
     refine W.region ?_
     refine ops_R (runs_loadAgg (ad := ⟨b4, 0, none⟩) (cs := [(.int .i64 re_), (.int .u64 ra_), (.int .u64 rb_), (.string rs_)]) (by kernel_rfl) (cells_sub (hs10.heapAt 0 rfl) rfl)) ?_
     obtain ⟨r166, h167, hm⟩ := bind_some hm
     refine zC00 hs10 (smay10_walk (re_ := re_) (ra_ := ra_) (rb_ := rb_) (rs_ := rs_) (hm := h167) B _) fun w168 hs170 => ?_
     refine zE 2 ?_
     have hs171 := St.f1 hs170
     exact ⟨(!r166), slots_intro _ (by kernel_rfl), hs171, hm⟩

end Go.Proofs.YthimamnblklkbaaDoor

set_option linter.unusedVariables false
set_option maxRecDepth 20000
set_option maxHeartbeats 2000000
namespace Go.Proofs.YthimamnblklkbaaDoor
open Go Go.RowKit
set_option linter.unusedSimpArgs false
set_option linter.unusedVariables false

def rsave_M (img : List Int) (l : List (Int × Int)) (i_ : Int) (k_ : Int) (q_ : Int) (re_ : Int) (ra_ : Int) (rb_ : Int) (rs_ : ByteArray) : Option (Int × List (Int × Int)) :=
 if i_ < 0 then (some (1, l)) else (if i_ ≥ 4 then (some (1, l)) else (if k_ < 0 then (some (1, l)) else (if k_ ≥ 4 then (some (1, l)) else (if q_ < 1 then (some (1, l)) else (if q_ > 1099511627776 then (some (1, l)) else ((rmay10_M re_ rs_).bind fun r31 =>
if r31 = true then ((rthere_M img i_ k_).bind fun r38 =>
if r38 = 0 then (need (0 ≤ re_ ∧ re_ ≤ 18446744073709551615) <|
need (0 ≤ (rs_.size : Int) ∧ (rs_.size : Int) ≤ 18446744073709551615) <|
(rpack_M rs_).bind fun r59 =>
need (r59.length ≤ 1000000) <|
need (-9223372036854775808 ≤ ((slotAt i_ k_) + 1) ∧ ((slotAt i_ k_) + 1) ≤ 9223372036854775807) <|
need ((([((re_ + ((256 * (rs_.size : Int)) % 18446744073709551616)) % 18446744073709551616), ra_, rb_] ++ r59) : List Int).length ≤ 1000000) <|
need (-1 ≤ ((slotAt i_ k_) + 1) ∧ ((slotAt i_ k_) + 1) ≤ 1000000) <|
(some (vwrites img ((slotAt i_ k_) + 1) l 0 ([((re_ + ((256 * (rs_.size : Int)) % 18446744073709551616)) % 18446744073709551616), ra_, rb_] ++ r59))).bind fun r75 =>
if r75.1 = 0 then ((some ((vwrite img r75.2 (slotAt i_ k_) q_).1)).bind fun r90 =>
some (r90, (vwrite img r75.2 (slotAt i_ k_) q_).2)) else (some (r75.1, r75.2))) else (some (r38, l))) else (some (1, l))))))))

theorem rsave_walk {img : List Int} {l : List (Int × Int)} {i_ : Int} {k_ : Int} {q_ : Int} {re_ : Int} {ra_ : Int} {rb_ : Int} {rs_ : ByteArray} {vb : Nat} {r : Int × List (Int × Int)} (B : Nat) (w : World) (hm : rsave_M img l i_ k_ q_ re_ ra_ rb_ rs_ = some r) : Spec Tryd.prog 47 #[(.pointer (some ⟨vb, 0, none⟩)), (.int .i64 i_), (.int .i64 k_), (.int .u64 q_), (.agg #[(.int .i64 re_), (.int .u64 ra_), (.int .u64 rb_), (.string rs_)])] B w [refA (ptr vb) img l] (fun v H' => v = (.int .i64 r.1) ∧ H' = [refA (ptr vb) img r.2]) := by
 refine spec_W Tryd.func47 rfl fun l0 hs => ?_
 unfold rsave_M at hm
 refine W.sr fun K1 hK1 => ?_
 refine zN [(.int .i64 re_), (.int .u64 ra_), (.int .u64 rb_), (.string rs_)] 46 hs fun b4 w2 hs3 => ?_
 refine zE 1 (hK1 _ _ ?_)
 refine W.seq fun K5 hK5 => ?_
 refine W.sr fun K6 hK6 => ?_
 refine zR 3 ?_
 rcases Bool.eq_false_or_eq_true (decide (i_ < 0)) with h7 | h7
 ·
  obtain ⟨h7p, hm⟩ := iY hm h7
  refine zS 16 h7 ?_
  refine zS 15 h7 ?_
  refine zE 24 (hK6 _ _ ?_)
  refine W.cond_true true (by kernel_rfl) rfl ?_
  refine W.sr fun K8 hK8 => ?_
  refine zE 1 (hK8 _ _ ?_)
  refine W.ret (ret_seq ?_)
  obtain rfl := some_inj hm
  have hs9 := St.f1 hs3
  have hs10 := St.tk1 hs9
  refine ret_of (.int .i64 1) (by kernel_rfl) ⟨_, ⟨rfl, rfl⟩, hs10⟩
 ·
  obtain ⟨h7p, hm⟩ := iN hm h7
  refine zS 16 h7 ?_
  refine zS 15 h7 ?_
  refine zR 4 ?_
  rcases Bool.eq_false_or_eq_true (decide (i_ ≥ 4)) with h11 | h11
  ·
   obtain ⟨h11p, hm⟩ := iY hm h11
   refine zS 20 h11 ?_
   refine zS 18 h11 ?_
   refine zS 19 h11 ?_
   refine zE 20 (hK6 _ _ ?_)
   refine W.cond_true true (by kernel_rfl) rfl ?_
   refine W.sr fun K12 hK12 => ?_
   refine zE 1 (hK12 _ _ ?_)
   refine W.ret (ret_seq ?_)
   obtain rfl := some_inj hm
   have hs13 := St.f1 hs3
   have hs14 := St.tk1 hs13
   refine ret_of (.int .i64 1) (by kernel_rfl) ⟨_, ⟨rfl, rfl⟩, hs14⟩
  ·
   obtain ⟨h11p, hm⟩ := iN hm h11
   refine zS 20 h11 ?_
   refine zS 18 h11 ?_
   refine zS 19 h11 ?_
   refine zR 4 ?_
   rcases Bool.eq_false_or_eq_true (decide (k_ < 0)) with h15 | h15
   ·
    obtain ⟨h15p, hm⟩ := iY hm h15
    refine zS 24 h15 ?_
    refine zS 22 h15 ?_
    refine zS 23 h15 ?_
    refine zE 16 (hK6 _ _ ?_)
    refine W.cond_true true (by kernel_rfl) rfl ?_
    refine W.sr fun K16 hK16 => ?_
    refine zE 1 (hK16 _ _ ?_)
    refine W.ret (ret_seq ?_)
    obtain rfl := some_inj hm
    have hs17 := St.f1 hs3
    have hs18 := St.tk1 hs17
    refine ret_of (.int .i64 1) (by kernel_rfl) ⟨_, ⟨rfl, rfl⟩, hs18⟩
   ·
    obtain ⟨h15p, hm⟩ := iN hm h15
    refine zS 24 h15 ?_
    refine zS 22 h15 ?_
    refine zS 23 h15 ?_
    refine zR 4 ?_
    rcases Bool.eq_false_or_eq_true (decide (k_ ≥ 4)) with h19 | h19
    ·
     obtain ⟨h19p, hm⟩ := iY hm h19
     refine zS 28 h19 ?_
     refine zS 26 h19 ?_
     refine zS 27 h19 ?_
     refine zE 12 (hK6 _ _ ?_)
     refine W.cond_true true (by kernel_rfl) rfl ?_
     refine W.sr fun K20 hK20 => ?_
     refine zE 1 (hK20 _ _ ?_)
     refine W.ret (ret_seq ?_)
     obtain rfl := some_inj hm
     have hs21 := St.f1 hs3
     have hs22 := St.tk1 hs21
     refine ret_of (.int .i64 1) (by kernel_rfl) ⟨_, ⟨rfl, rfl⟩, hs22⟩
    ·
     obtain ⟨h19p, hm⟩ := iN hm h19
     refine zS 28 h19 ?_
     refine zS 26 h19 ?_
     refine zS 27 h19 ?_
     refine zR 4 ?_
     rcases Bool.eq_false_or_eq_true (decide (q_ < 1)) with h23 | h23
     ·
      obtain ⟨h23p, hm⟩ := iY hm h23
      refine zS 32 h23 ?_
      refine zS 30 h23 ?_
      refine zS 31 h23 ?_
      refine zE 8 (hK6 _ _ ?_)
      refine W.cond_true true (by kernel_rfl) rfl ?_
      refine W.sr fun K24 hK24 => ?_
      refine zE 1 (hK24 _ _ ?_)
      refine W.ret (ret_seq ?_)
      obtain rfl := some_inj hm
      have hs25 := St.f1 hs3
      have hs26 := St.tk1 hs25
      refine ret_of (.int .i64 1) (by kernel_rfl) ⟨_, ⟨rfl, rfl⟩, hs26⟩
     ·
      obtain ⟨h23p, hm⟩ := iN hm h23
      refine zS 32 h23 ?_
      refine zS 30 h23 ?_
      refine zS 31 h23 ?_
      refine zR 4 ?_
      rcases Bool.eq_false_or_eq_true (decide (q_ > 1099511627776)) with h27 | h27
      ·
       obtain ⟨h27p, hm⟩ := iY hm h27
       refine zS 36 h27 ?_
       refine zS 34 h27 ?_
       refine zS 35 h27 ?_
       refine zE 4 (hK6 _ _ ?_)
       refine W.cond_true true (by kernel_rfl) rfl ?_
       refine W.sr fun K28 hK28 => ?_
       refine zE 1 (hK28 _ _ ?_)
       refine W.ret (ret_seq ?_)
       obtain rfl := some_inj hm
       have hs29 := St.f1 hs3
       have hs30 := St.tk1 hs29
       refine ret_of (.int .i64 1) (by kernel_rfl) ⟨_, ⟨rfl, rfl⟩, hs30⟩
      ·
       obtain ⟨h27p, hm⟩ := iN hm h27
       refine zS 36 h27 ?_
       refine zS 34 h27 ?_
       refine zS 35 h27 ?_
       refine ops_R (runs_loadAgg (ad := ⟨b4, 0, none⟩) (cs := [(.int .i64 re_), (.int .u64 ra_), (.int .u64 rb_), (.string rs_)]) (by kernel_rfl) (cells_sub (hs3.heapAt 0 rfl) rfl)) ?_
       obtain ⟨r31, h32, hm⟩ := bind_some hm
       refine zC00 hs3 (rmay10_walk (re_ := re_) (ra_ := ra_) (rb_ := rb_) (rs_ := rs_) (hm := h32) B _) fun w33 hs35 => ?_
       refine zE 2 (hK6 _ _ ?_)
       refine W.cond (!r31) (by kernel_rfl) (fun h36 => ?_) (fun h36 => ?_)
       rotate_left
       ·
        have h36p : r31 = true := (bnot_false h36)
        replace hm := ite_yes hm h36p
        refine W.skip ?_
        refine hK5 _ _ ?_
        refine W.sr fun K37 hK37 => ?_
        refine zR 3 ?_
        obtain ⟨r38, h39, hm⟩ := bind_some hm
        refine zC00 hs35 (rthere_walk (i_ := i_) (k_ := k_) (img := img) (l := l) (hv := (hs35.entAt 1 rfl refA_at)) (hm := h39) B _) fun w40 hs42 => ?_
        refine zE 1 (hK37 _ _ ?_)
        refine W.seq fun K43 hK43 => ?_
        refine W.sr fun K44 hK44 => ?_
        refine zE 2 (hK44 _ _ ?_)
        refine W.cond (!decide (r38 = 0)) (by kernel_rfl) (fun h45 => ?_) (fun h45 => ?_)
        rotate_left
        ·
         have h45p : r38 = 0 := of_decide_eq_true (bnot_false h45)
         replace hm := ite_yes hm h45p
         refine W.skip ?_
         refine hK43 _ _ ?_
         refine W.sr fun K46 hK46 => ?_
         refine zR 2 ?_
         refine zC00 hs42 (rslotat_spec (i_ := i_) (k_ := k_) B _) fun w47 hs49 => ?_
         refine zE 1 (hK46 _ _ ?_)
         refine W.sr fun K50 hK50 => ?_
         refine zR 1 ?_
         refine zL ⟨b4, 0, none⟩ (.int .i64 re_) (hs49.cellAt 0 rfl rfl) ?_
         obtain ⟨h51, hm⟩ := need_some hm
         refine zI _ (wrap_u64 h51.1 (Int.lt_of_le_of_lt h51.2 (by decide))) ?_
         refine zR 1 ?_
         refine zL ⟨b4, 3, none⟩ (.string rs_) (hs49.cellAt 0 rfl rfl) ?_
         refine zR 1 ?_
         obtain ⟨h52, hm⟩ := need_some hm
         refine zI _ (wrap_u64 h52.1 (Int.lt_of_le_of_lt h52.2 (by decide))) ?_
         refine ops_val (v := .int .u64 (IntKind.u64.wrap (256 * (rs_.size : Int)))) (v' := .int .u64 ((256 * (rs_.size : Int)) % 18446744073709551616)) (by kernel_rfl) (congrArg (Value.int .u64) (wrap_u64_mod _)) ?_
         refine ops_val (v := .int .u64 (IntKind.u64.wrap (re_ + ((256 * (rs_.size : Int)) % 18446744073709551616)))) (v' := .int .u64 ((re_ + ((256 * (rs_.size : Int)) % 18446744073709551616)) % 18446744073709551616)) (by kernel_rfl) (congrArg (Value.int .u64) (wrap_u64_mod _)) ?_
         refine zR 1 ?_
         refine zL ⟨b4, 1, none⟩ (.int .u64 ra_) (hs49.cellAt 0 rfl rfl) ?_
         refine zR 1 ?_
         refine zL ⟨b4, 2, none⟩ (.int .u64 rb_) (hs49.cellAt 0 rfl rfl) ?_
         refine ops_new (fun b => .slice (some ⟨b, 0, none⟩) 3 3) (.cells [(.int .u64 ((re_ + ((256 * (rs_.size : Int)) % 18446744073709551616)) % 18446744073709551616)), (.int .u64 ra_), (.int .u64 rb_)].toArray 38 (0, 0)) hs49 (by kernel_rfl) (fun b55 w53 hs54 => ?_)
         refine zE 1 (hK50 _ _ ?_)
         refine W.sr fun K56 hK56 => ?_
         refine zR 2 ?_
         refine zL ⟨b4, 3, none⟩ (.string rs_) (hs54.cellAt 1 rfl rfl) ?_
         obtain ⟨r59, h60, hm⟩ := bind_some hm
         refine ops_call0 hs54 (by kernel_rfl) (rpack_walk (hm := h60) B _) ?_
         rintro _ _ w61 ⟨a57, c58, rfl, rfl⟩ hs62
         have hs63 := St.ap1 hs62
         have hs64 := St.f1 hs63
         have hs65 : St B w l0 w61 [kU64.row (some ⟨b55, 0, none⟩) 3 ([((re_ + ((256 * (rs_.size : Int)) % 18446744073709551616)) % 18446744073709551616), ra_, rb_]), kU64.row a57 c58 r59, blk b4 (.cells [(.int .i64 re_), (.int .u64 ra_), (.int .u64 rb_), (.string rs_)].toArray 46 (0, 0)), refA (ptr vb) img l] := St.kblk kU64 [((re_ + ((256 * (rs_.size : Int)) % 18446744073709551616)) % 18446744073709551616), ra_, rb_] hs64 rfl rfl (by simp only [List.length_cons, List.length_nil]; decide)
         obtain ⟨h70, hm⟩ := need_some hm
         refine ops_appendK kU64 (bytes := 8) (a' := a57) (c' := c58) (l := [((re_ + ((256 * (rs_.size : Int)) % 18446744073709551616)) % 18446744073709551616), ra_, rb_]) (m := r59) hs65 (by kernel_rfl) (St.capnil kU64 hs65 1 rfl) (St.kcells kU64 hs65 1 rfl) (by unfold maxLen; (try simp only [List.length_cons, List.length_nil]); omega) (by (try simp only [List.length_cons, List.length_nil]); omega) (fun a66 c67 w68 hs69 => ?_)
         refine zE 1 (hK56 _ _ ?_)
         refine W.sr fun K71 hK71 => ?_
         refine zR 2 ?_
         obtain ⟨h72, hm⟩ := need_some hm
         refine zI _ (wrap_i64 h72.1 h72.2) ?_
         refine zR 1 ?_
         obtain ⟨h73, hm⟩ := need_some hm
         obtain ⟨h74, hm⟩ := need_some hm
         obtain ⟨r75, h76, hm⟩ := bind_some hm
         replace h76 := some_inj h76
         have hs79 := St.f3 hs69
         refine ops_call2 hs79 (by kernel_rfl) (rall_spec (b := vb) (img := img) (l := l) (at_ := ((slotAt i_ k_) + 1)) (la := a66) (lc := c67) (ws := ([((re_ + ((256 * (rs_.size : Int)) % 18446744073709551616)) % 18446744073709551616), ra_, rb_] ++ r59)) (n := ([((re_ + ((256 * (rs_.size : Int)) % 18446744073709551616)) % 18446744073709551616), ra_, rb_] ++ r59).length) (hn := rfl) (hsz := h73) (hat := h74) B _) ?_
         rintro _ _ w80 ⟨hv77, hH78⟩ hs81
         rw [h76] at hv77
         try rw [h76] at hH78
         subst hv77 hH78
         have hs82 := St.ap1 hs81
         refine zE 1 (hK71 _ _ ?_)
         refine W.seq fun K83 hK83 => ?_
         refine W.sr fun K84 hK84 => ?_
         refine zE 2 (hK84 _ _ ?_)
         refine W.cond (!decide (r75.1 = 0)) (by kernel_rfl) (fun h85 => ?_) (fun h85 => ?_)
         rotate_left
         ·
          have h85p : r75.1 = 0 := of_decide_eq_true (bnot_false h85)
          replace hm := ite_yes hm h85p
          refine W.skip ?_
          refine hK83 _ _ ?_
          refine W.sr fun K86 hK86 => ?_
          refine zR 3 ?_
          refine zC11 hs82 (rset_spec (b := vb) (img := img) (l := r75.2) (at_ := (slotAt i_ k_)) (x_ := q_) B _) fun w87 hs89 => ?_
          refine zR 1 ?_
          obtain ⟨r90, h91, hm⟩ := bind_some hm
          replace h91 := some_inj h91
          refine ops_set 10 (v := .int .i64 r90) (Eq.trans (by kernel_rfl) (congrArg (Value.int .i64) h91)) ?_
          refine zD (hK86 _ _ ?_)
          refine W.ret ?_
          obtain rfl := some_inj hm
          have hs92 := St.tk1 hs89
          refine ret_of (.int .i64 r90) (by kernel_rfl) ⟨_, ⟨rfl, rfl⟩, hs92⟩
         ·
          have h85p : ¬ (r75.1 = 0) := of_decide_eq_false (bnot_true h85)
          replace hm := ite_no hm h85p
          refine W.sr fun K93 hK93 => ?_
          refine zE 2 (hK93 _ _ ?_)
          refine W.ret (ret_seq ?_)
          obtain rfl := some_inj hm
          have hs94 := St.tk1 hs82
          refine ret_of (.int .i64 r75.1) (by kernel_rfl) ⟨_, ⟨rfl, rfl⟩, hs94⟩
        ·
         have h45p : ¬ (r38 = 0) := of_decide_eq_false (bnot_true h45)
         replace hm := ite_no hm h45p
         refine W.sr fun K95 hK95 => ?_
         refine zE 2 (hK95 _ _ ?_)
         refine W.ret (ret_seq ?_)
         obtain rfl := some_inj hm
         have hs96 := St.f1 hs42
         have hs97 := St.tk1 hs96
         refine ret_of (.int .i64 r38) (by kernel_rfl) ⟨_, ⟨rfl, rfl⟩, hs97⟩
       ·
        have h36p : ¬ (r31 = true) := ne_true_of_eq_false (bnot_true h36)
        replace hm := ite_no hm h36p
        refine W.sr fun K98 hK98 => ?_
        refine zE 1 (hK98 _ _ ?_)
        refine W.ret (ret_seq ?_)
        obtain rfl := some_inj hm
        have hs99 := St.f1 hs35
        have hs100 := St.tk1 hs99
        refine ret_of (.int .i64 1) (by kernel_rfl) ⟨_, ⟨rfl, rfl⟩, hs100⟩

end Go.Proofs.YthimamnblklkbaaDoor

namespace Go.Proofs.YthimamnblklkbaaDoor
open Go Go.RowKit
set_option linter.unusedVariables false
set_option linter.unusedSimpArgs false

variable {img : List Int} {l : List (Int × Int)}
theorem or_byte {n b : Int} (hn : 0 ≤ n ∧ n < 72057594037927936) (hb : 0 ≤ b ∧ b < 256) : bits .or .u64 (shlK .u64 n 8) b = b + 256 * n := by
  have e : shlK .u64 n 8 = 256 * n := by
    unfold shlK
    show IntKind.u64.wrap (n * 2 ^ (min (8 : Int).toNat 64)) = _
    rw [show (2 : Int) ^ (min (8 : Int).toNat 64) = 256 by decide, wrap_u64 (by omega) (by omega)]
    omega
  rw [e]
  have hx : U64 (256 * n) := by unfold U64; omega
  have hy : U64 b := by unfold U64; omega
  refine bitI_ext (bits_u64 hx hy) (by unfold U64; omega) fun j _ => ?_
  rw [bitI_or hx hy]
  unfold bitI
  obtain ⟨a, rfl⟩ := Int.eq_ofNat_of_zero_le hn.1
  obtain ⟨c, rfl⟩ := Int.eq_ofNat_of_zero_le hb.1
  rw [show (256 * (a : Int)).toNat = a <<< 8 by rw [Nat.shiftLeft_eq]; omega, show ((c : Int) + 256 * (a : Int)).toNat = a <<< 8 + c by rw [Nat.shiftLeft_eq]; omega,
    Nat.shiftLeft_add_eq_or_of_lt (show c < 2 ^ 8 by omega), Nat.testBit_or, Int.toNat_natCast]
theorem opack_eq {s : ByteArray} (hs : s.size ≤ 1000000) : opack_M s = some (packF s) := by
  unfold opack_M
  refine need_of hs ?_
  have hlen := strNums_len s
  have inner : ∀ (k : Nat) (c : List Int → Option (List Int)) (q : List Int), 8 * k < s.size → ∀ (m j : Nat), j + m = partN s.size k →
      rounds (fun k_ c_ s_ => opack_R108 s k k_ c_ s_) (fun s_ => opack_D108 c q s_) m j (valB ((((strNums s).drop (8 * k)).take (partN s.size k)).drop (partN s.size k - j))) =
      opack_D108 c q (valB (((strNums s).drop (8 * k)).take (partN s.size k))) := by
    intro k c q hk m
    have hp := part_pos hk
    have hb : Byt (((strNums s).drop (8 * k)).take (partN s.size k)) := ((byt_str s).drop _).take _
    have hl : (((strNums s).drop (8 * k)).take (partN s.size k)).length = partN s.size k := by simp only [List.length_take, List.length_drop, hlen]; omega
    induction m with
    | zero =>
      intro j hj
      rw [show partN s.size k - j = 0 by omega, List.drop_zero]
      rfl
    | succ m ih =>
      intro j hj
      show opack_R108 s k j _ _ = _
      unfold opack_R108
      simp only [Option.bind]
      have e1 : ((strNums s).drop (8 * k)).getD (partN s.size k - 1 - j) 0 = (((strNums s).drop (8 * k)).take (partN s.size k)).getD (partN s.size k - 1 - j) 0 := by
        simp only [List.getD_eq_getElem?_getD, List.getElem?_take]
        rw [if_pos (by omega)]
      rw [e1]
      generalize hX : ((strNums s).drop (8 * k)).take (partN s.size k) = X at *
      have hg := hb.getD (partN s.size k - 1 - j)
      refine need_of (by omega) ?_
      have hr := valB_range (hb.drop (partN s.size k - j))
      have hlt : (X.drop (partN s.size k - j)).length = j := by rw [List.length_drop]; omega
      rw [hlt] at hr
      have h7 : (256 : Int) ^ j ≤ 72057594037927936 := by
        have : j = 0 ∨ j = 1 ∨ j = 2 ∨ j = 3 ∨ j = 4 ∨ j = 5 ∨ j = 6 ∨ j = 7 := by omega
        rcases this with rfl | rfl | rfl | rfl | rfl | rfl | rfl | rfl <;> decide
      rw [or_byte (by omega) hg]
      have e2 : X.drop (partN s.size k - (j + 1)) = X.getD (partN s.size k - 1 - j) 0 :: X.drop (partN s.size k - j) := by
        have hlt2 : partN s.size k - (j + 1) < X.length := by omega
        rw [List.drop_eq_getElem_cons hlt2, show partN s.size k - (j + 1) + 1 = partN s.size k - j by omega, show partN s.size k - 1 - j = partN s.size k - (j + 1) by omega]
        simp [List.getD, hlt2]
      have := ih (j + 1) (by omega)
      rw [e2, valB] at this
      exact this
  have outer : ∀ (m k : Nat), k + m = (s.size + 7) / 8 → rounds (fun k_ c_ s_ => opack_R27 s k_ c_ s_) (fun s_ => opack_D27 s_) m k ((packF s).take k) = some (packF s) := by
    intro m
    have hpl := packF_len s
    induction m with
    | zero =>
      intro k hk
      rw [List.take_of_length_le (by omega)]
      rfl
    | succ m ih =>
      intro k hk
      have h8 : 8 * k < s.size := by omega
      have := inner k (rounds (fun k_ c_ s_ => opack_R27 s k_ c_ s_) (fun s_ => opack_D27 s_) m (k + 1)) ((packF s).take k) h8 (partN s.size k) 0 (by omega)
      rw [Nat.sub_zero, List.drop_of_length_le (by simp only [List.length_take]; omega)] at this
      refine Eq.trans (show _ = opack_D108 (rounds (fun k_ c_ s_ => opack_R27 s k_ c_ s_) (fun s_ => opack_D27 s_) m (k + 1)) ((packF s).take k) (valB (((strNums s).drop (8 * k)).take (partN s.size k))) from this) ?_
      unfold opack_D108 opack_J3
      refine need_of (by simp only [List.length_take]; omega) ?_
      have e : (packF s).take k ++ [valB (((strNums s).drop (8 * k)).take (partN s.size k))] = (packF s).take (k + 1) := by
        rw [take_snoc 0 (by omega), packF_get s (by omega)]
        congr 3
        unfold partN
        split
        · rw [List.take_of_length_le (by simp only [List.length_drop]; omega), List.take_of_length_le (by simp only [List.length_drop]; omega)]
        · rfl
      rw [e]
      exact ih (k + 1) (by omega)
  exact outer _ 0 (by omega)

def mayF (re : Int) (rs : ByteArray) : Bool := decide (re ≥ 0 ∧ re ≤ 24 ∧ (rs.size : Int) ≤ 64)
theorem mayF_true {re : Int} {rs : ByteArray} : mayF re rs = true ↔ re ≥ 0 ∧ re ≤ 24 ∧ (rs.size : Int) ≤ 64 := by unfold mayF; exact decide_eq_true_iff
theorem smay_eq (re : Int) (rs : ByteArray) : smay10_M re rs = some (mayF re rs) := by
  unfold smay10_M mayF
  by_cases h1 : re ≥ 0
  · by_cases h2 : re ≤ 24
    · rw [if_pos h1, if_pos h2]; simp [h1, h2]
    · rw [if_pos h1, if_neg h2]; simp [h2]
  · rw [if_neg h1]; simp [h1]
def saveA (at_ A ra rb : Int) (ws : List Int) : List (Int × Int) := [(at_ + 1, A), (at_ + 2, ra), (at_ + 3, rb)] ++ (List.range ws.length).map fun (j : Nat) => (at_ + 4 + (j : Int), ws.getD j 0)
def saveL (at_ q re ra rb : Int) (rs : ByteArray) : List (Int × Int) := saveA at_ (re + 256 * (rs.size : Int)) ra rb (packF rs) ++ [(at_, q)]
def saveF (img : List Int) (l : List (Int × Int)) (i k q re ra rb : Int) (rs : ByteArray) : Int × List (Int × Int) :=
  if q < 1 ∨ q > 1099511627776 ∨ ¬ mayF re rs = true then (1, l) else if thereF img i k = 0 then vsets img l (saveL (slotAt i k) q re ra rb rs) else (thereF img i k, l)
theorem thereF_cases (img : List Int) (i k : Int) : thereF img i k = 0 ∨ thereF img i k = 1 ∨ thereF img i k = 8 := by
  unfold thereF
  repeat' split
  all_goals omega
theorem ssave_eq (img : List Int) (l : List (Int × Int)) (i k q re ra rb : Int) (rs : ByteArray) : ssave_M img l i k q re ra rb rs = some (saveF img l i k q re ra rb rs) := by
  unfold ssave_M saveF
  obtain ⟨a, e, ha⟩ := sfind_eq img i k
  have hc := thereF_cases img i k
  rw [e]
  simp only [Option.bind]
  rw [if_neg (show ¬ thereF img i k = 2 by omega)]
  have J1 : ssave_J1 img l k q re ra rb rs (a, thereF img i k) true = some (1, l) := by unfold ssave_J1; rw [if_pos rfl]
  by_cases h1 : q < 1
  · rw [if_pos h1, decide_eq_true h1, J1, if_pos (Or.inl h1)]
  · rw [if_neg h1]
    by_cases h2 : q > 1099511627776
    · rw [if_pos h2, decide_eq_true h2, J1, if_pos (Or.inr (Or.inl h2))]
    · rw [if_neg h2, smay_eq]
      simp only
      cases hm : mayF re rs with
      | false => rw [if_pos (Or.inr (Or.inr (by simp)))]; exact J1
      | true =>
        rw [if_neg (show ¬ (q < 1 ∨ q > 1099511627776 ∨ ¬ true = true) by simp; omega)]
        have hmay := mayF_true.1 hm
        unfold ssave_J1
        rw [if_neg (by decide)]
        by_cases h : thereF img i k = 0
        · rw [if_pos h, if_pos h]
          have ht := thereF_zero h
          simp only [ha h]
          refine need_of (by omega) (need_of (by omega) (need_of (by omega) (need_of (by omega) (need_of (by omega) ?_))))
          rw [opack_eq (by omega)]
          simp only [Option.bind]
          have hpl := packF_len rs
          have hA : (re + 256 * (rs.size : Int) % 18446744073709551616) % 18446744073709551616 = re + 256 * (rs.size : Int) := by omega
          rw [hA]
          refine iter_run (fun t => 0 ≤ t.2 ∧ t.2 ≤ ((packF rs).length : Int) ∧ t.1 = saveA (slotAt i k) (re + 256 * (rs.size : Int)) ra rb ((packF rs).take t.2.toNat)) (fun t => (((packF rs).length : Int) - t.2).toNat) ?_ _ _ ⟨by simp, by simp, by simp [saveA]⟩ (fuel_lt (by simp only; omega))
          rintro c ⟨xs, p⟩ ⟨p1, p2, p3⟩ ih
          simp only at p1 p2 p3 ih
          subst p3
          unfold ssave_B0
          simp only
          have hsl : (saveA (slotAt i k) (re + 256 * (rs.size : Int)) ra rb ((packF rs).take p.toNat)).length = 3 + p.toNat := by
            unfold saveA
            simp only [List.length_append, List.length_cons, List.length_nil, List.length_map, List.length_range, List.length_take]
            omega
          by_cases hp : p < ((packF rs).length : Int)
          · rw [if_pos hp]
            refine need_of (by omega) (need_of (by omega) (need_of (by omega) (need_of (by omega) (need_of (by omega) ?_))))
            refine ih _ ⟨by simp only; omega, by simp only; omega, ?_⟩ (by simp only; omega)
            simp only
            unfold saveA
            have htl : ((packF rs).take (p.toNat + 1)).length = p.toNat + 1 := by rw [List.length_take]; omega
            have htl0 : ((packF rs).take p.toNat).length = p.toNat := by rw [List.length_take]; omega
            rw [show (p + 1).toNat = p.toNat + 1 by omega, htl, htl0, List.range_succ, List.map_append, List.append_assoc]
            congr 2
            · refine List.map_congr_left fun j hj => ?_
              have := List.mem_range.1 hj
              simp only [List.getD_eq_getElem?_getD, List.getElem?_take, if_pos this, if_pos (show j < p.toNat + 1 by omega)]
            · simp only [List.map_cons, List.map_nil, List.getD_eq_getElem?_getD, List.getElem?_take, if_pos (show p.toNat < p.toNat + 1 by omega)]
              congr 2
              omega
          · rw [if_neg hp]
            have e2 : (packF rs).take p.toNat = packF rs := List.take_of_length_le (by omega)
            rw [e2] at hsl ⊢
            unfold ssave_J2
            refine need_of (by omega) ?_
            simp only [Option.bind]
            exact need_of (by simp only [List.length_append, List.length_cons, List.length_nil]; omega) rfl
        · rw [if_neg h, if_neg h]
end Go.Proofs.YthimamnblklkbaaDoor

namespace Go.Proofs.YthimamnblklkbaaDoor
open Go Go.RowKit
set_option linter.unusedVariables false
set_option linter.unusedSimpArgs false

variable {img : List Int} {l : List (Int × Int)}
theorem said_mem {k x : Int} : ∀ {ps : List (Int × Int)} {d : Int}, (∃ p ∈ ps, p.1 = k) → (∀ p ∈ ps, p.1 = k → p.2 = x) → said k ps d = x
  | [], _, h, _ => by obtain ⟨p, hp, _⟩ := h; simp at hp
  | p :: ps, d, h, hx => by
    unfold said
    by_cases h2 : ∃ q ∈ ps, q.1 = k
    · exact said_mem h2 fun q hq => hx q (by simp [hq])
    · obtain ⟨q, hq, rfl⟩ := h
      rcases List.mem_cons.1 hq with rfl | hq
      · rw [if_pos rfl, said_out fun q' hq' e => h2 ⟨q', hq', e.symm⟩]
        exact hx _ (by simp) rfl
      · exact absurd ⟨q, hq, rfl⟩ h2
theorem vwrite_same {a x : Int} (ha : 0 ≤ a ∧ a < (img.length : Int)) (h : vget img l a = x) : vwrite img l a x = (0, l) := by
  unfold vwrite
  rw [if_neg (by omega), if_pos h]
theorem vsets_same : ∀ {xs : List (Int × Int)}, (∀ p ∈ xs, (0 ≤ p.1 ∧ p.1 < (img.length : Int)) ∧ vget img l p.1 = p.2) → vsets img l xs = (0, l)
  | [], _ => rfl
  | x :: xs, h => by
    rw [vsets_cons, vwrite_same (h x (by simp)).1 (h x (by simp)).2]
    exact vsets_same fun p hp => h p (by simp [hp])
structure Saved (img : List Int) (m : List (Int × Int)) (at_ q re ra rb : Int) (rs : ByteArray) : Prop where
  num : vget img m at_ = q
  head : vget img m (at_ + 1) = re + 256 * (rs.size : Int)
  a : vget img m (at_ + 2) = ra
  b : vget img m (at_ + 3) = rb
  text : ∀ j : Nat, j < (packF rs).length → vget img m (at_ + 4 + (j : Int)) = (packF rs).getD j 0
theorem mem_saveL {at_ q re ra rb : Int} {rs : ByteArray} {p : Int × Int} : p ∈ saveL at_ q re ra rb rs ↔ p = (at_ + 1, re + 256 * (rs.size : Int)) ∨ p = (at_ + 2, ra) ∨ p = (at_ + 3, rb) ∨ (∃ j : Nat, j < (packF rs).length ∧ p = (at_ + 4 + (j : Int), (packF rs).getD j 0)) ∨ p = (at_, q) := by
  unfold saveL saveA
  simp only [List.mem_append, List.mem_cons, List.not_mem_nil, or_false, List.mem_map, List.mem_range, or_assoc]
  constructor
  · rintro (h | h | h | ⟨j, hj, h⟩ | h)
    · exact .inl h
    · exact .inr (.inl h)
    · exact .inr (.inr (.inl h))
    · exact .inr (.inr (.inr (.inl ⟨j, hj, h.symm⟩)))
    · exact .inr (.inr (.inr (.inr h)))
  · rintro (h | h | h | ⟨j, hj, h⟩ | h)
    · exact .inl h
    · exact .inr (.inl h)
    · exact .inr (.inr (.inl h))
    · exact .inr (.inr (.inr (.inl ⟨j, hj, h.symm⟩)))
    · exact .inr (.inr (.inr (.inr h)))
theorem saveL_val {at_ q re ra rb : Int} {rs : ByteArray} {p p' : Int × Int} (h : p ∈ saveL at_ q re ra rb rs) (h' : p' ∈ saveL at_ q re ra rb rs) (e : p.1 = p'.1) : p.2 = p'.2 := by
  rcases mem_saveL.1 h with rfl | rfl | rfl | ⟨j, hj, rfl⟩ | rfl <;> rcases mem_saveL.1 h' with rfl | rfl | rfl | ⟨j', hj', rfl⟩ | rfl <;> simp only at e ⊢ <;> first | omega | skip
  obtain rfl : j = j' := by omega
  rfl
theorem saveL_len (at_ q re ra rb : Int) (rs : ByteArray) : (saveL at_ q re ra rb rs).length = 4 + (packF rs).length := by
  unfold saveL saveA
  simp only [List.length_append, List.length_cons, List.length_nil, List.length_map, List.length_range]
  omega
theorem load_saved {m : List (Int × Int)} {i k q re ra rb : Int} {rs : ByteArray} (h0 : thereF img i k = 0) (hq : 1 ≤ q) (hm : mayF re rs = true) (h : Saved img m (slotAt i k) q re ra rb rs) :
    loadF img m i k = (q, re, ra, rb, rs, 0) := by
  have hmay := mayF_true.1 hm
  unfold loadF
  have hd := Int.tmod_eq_emod_of_nonneg (a := re + 256 * (rs.size : Int)) (b := 256) (by omega)
  have hd2 := Int.tdiv_eq_ediv_of_nonneg (a := re + 256 * (rs.size : Int)) (b := 256) (by omega)
  rw [if_pos h0, h.num, h.head, hd, hd2, show (re + 256 * (rs.size : Int)) % 256 = re by omega, show (re + 256 * (rs.size : Int)) / 256 = (rs.size : Int) by omega, if_neg (by omega), if_neg (by omega), if_neg (by omega), h.a, h.b, Int.toNat_natCast]
  have hpl := packF_len rs
  rw [bytesF_pack, str_nums]
  intro j hj
  have ht := h.text j (by omega)
  have : j = 0 ∨ j = 1 ∨ j = 2 ∨ j = 3 ∨ j = 4 ∨ j = 5 ∨ j = 6 ∨ j = 7 := by omega
  rw [← ht]
  rcases this with rfl | rfl | rfl | rfl | rfl | rfl | rfl | rfl <;> simp only [List.getD_cons_succ, List.getD_cons_zero] <;> congr 1 <;> omega
theorem save_in (hv : VJ img l) {i k q re ra rb : Int} {rs : ByteArray} (h0 : thereF img i k = 0) (hq : 1 ≤ q ∧ q ≤ 1099511627776) (hm : mayF re rs = true) (ha : U64 ra) (hb : U64 rb) (hl : l.length + 12 ≤ 96) :
    ∃ m, saveF img l i k q re ra rb rs = (0, m) ∧ VJ img m ∧ m.length ≤ l.length + (4 + (rs.size + 7) / 8) ∧ Saved img m (slotAt i k) q re ra rb rs ∧ (∀ j, ¬ (slotAt i k ≤ j ∧ j < slotAt i k + 12) → vget img m j = vget img l j) ∧ saveF img m i k q re ra rb rs = (0, m) := by
  have hmay := mayF_true.1 hm
  have ht := thereF_zero h0
  have hpl := packF_len rs
  have e0 : ∀ l', saveF img l' i k q re ra rb rs = vsets img l' (saveL (slotAt i k) q re ra rb rs) := by
    intro l'
    unfold saveF
    rw [if_neg (by rw [hm]; simp; omega), if_pos h0]
  have hin : ∀ p ∈ saveL (slotAt i k) q re ra rb rs, (slotAt i k ≤ p.1 ∧ p.1 < slotAt i k + 12) ∧ U64 p.2 := by
    intro p hp
    rcases mem_saveL.1 hp with rfl | rfl | rfl | ⟨j, hj, rfl⟩ | rfl
    · refine ⟨by simp only; omega, ?_⟩; unfold U64; simp only; omega
    · exact ⟨by simp only; omega, ha⟩
    · exact ⟨by simp only; omega, hb⟩
    · refine ⟨by simp only; omega, packF_u64 rs _ ?_⟩
      simp only [List.getD_eq_getElem?_getD, List.getElem?_eq_getElem hj, Option.getD_some]
      exact List.getElem_mem hj
    · refine ⟨by simp only; omega, ?_⟩; unfold U64; simp only; omega
  obtain ⟨m, e, hv2, hlen, hg⟩ := vsets_in (saveL (slotAt i k) q re ra rb rs) l hv (fun p hp => ⟨by have := (hin p hp).1; omega, (hin p hp).2⟩) (by rw [saveL_len]; omega)
  have hval : ∀ p ∈ saveL (slotAt i k) q re ra rb rs, vget img m p.1 = p.2 := fun p hp => by
    rw [hg]
    exact said_mem ⟨p, hp, rfl⟩ fun p' hp' e' => saveL_val hp' hp e'
  refine ⟨m, by rw [e0, e], hv2, by rw [saveL_len] at hlen; omega, ⟨?_, ?_, ?_, ?_, ?_⟩, ?_, ?_⟩
  · exact hval (slotAt i k, q) (mem_saveL.2 (by simp))
  · exact hval (slotAt i k + 1, _) (mem_saveL.2 (by simp))
  · exact hval (slotAt i k + 2, _) (mem_saveL.2 (by simp))
  · exact hval (slotAt i k + 3, _) (mem_saveL.2 (by simp))
  · intro j hj
    exact hval (slotAt i k + 4 + (j : Int), _) (mem_saveL.2 (.inr (.inr (.inr (.inl ⟨j, hj, rfl⟩)))))
  · intro j hj
    rw [hg]
    exact said_out fun p hp e' => hj (by have := (hin p hp).1; omega)
  · rw [e0]
    exact vsets_same fun p hp => ⟨by have := (hin p hp).1; omega, hval p hp⟩
theorem loadF_congr {img' : List Int} {l' : List (Int × Int)} {i k : Int} (hl : img.length = img'.length) (h : ∀ j, slotAt i k ≤ j ∧ j < slotAt i k + 12 → vget img l j = vget img' l' j) : loadF img l i k = loadF img' l' i k := by
  unfold loadF thereF
  rw [hl, h (slotAt i k) (by omega), h (slotAt i k + 1) (by omega), h (slotAt i k + 2) (by omega), h (slotAt i k + 3) (by omega), h (slotAt i k + 4) (by omega), h (slotAt i k + 5) (by omega), h (slotAt i k + 6) (by omega), h (slotAt i k + 7) (by omega), h (slotAt i k + 8) (by omega), h (slotAt i k + 9) (by omega), h (slotAt i k + 10) (by omega), h (slotAt i k + 11) (by omega)]
end Go.Proofs.YthimamnblklkbaaDoor

namespace Go.Proofs.YthimamnblklkbaaDoor
open Go Go.RowKit
set_option linter.unusedSimpArgs false
set_option linter.unusedVariables false

structure TSt11 where
  c0 : Int
  c1 : Int
  c2 : Int
  c3 : Int
  c4 : Int
  c5 : Int
  c6 : Int
  c7 : ByteArray
  c8 : Bool

def dSt11 : TSt11 := (⟨0, 0, 0, 0, 0, 0, 0, .empty, false⟩ : TSt11)
def kSt11 : Kind TSt11 := ⟨110, 9, fun x => [.int .u8 x.c0, .int .i64 x.c1, .int .u64 x.c2, .int .u64 x.c3, .int .i64 x.c4, .int .u64 x.c5, .int .u64 x.c6, .string x.c7, .bool x.c8], by decide, fun _ => rfl, fun _ => rfl⟩
def good_St11 (x : TSt11) : Prop := (0 ≤ x.c0 ∧ x.c0 ≤ 255) ∧ (-9223372036854775808 ≤ x.c1 ∧ x.c1 ≤ 9223372036854775807) ∧ (0 ≤ x.c2 ∧ x.c2 ≤ 18446744073709551615) ∧ (0 ≤ x.c3 ∧ x.c3 ≤ 18446744073709551615) ∧ (-9223372036854775808 ≤ x.c4 ∧ x.c4 ≤ 9223372036854775807) ∧ (0 ≤ x.c5 ∧ x.c5 ≤ 18446744073709551615) ∧ (0 ≤ x.c6 ∧ x.c6 ≤ 18446744073709551615)

end Go.Proofs.YthimamnblklkbaaDoor

namespace Go.Proofs.YthimamnblklkbaaDoor
open Go Go.RowKit
set_option linter.unusedVariables false
set_option linter.unusedSimpArgs false

variable {img : List Int} {l : List (Int × Int)}
theorem VJ.start (h : ∀ x ∈ img, U64 x) (hl : img.length ≤ 17592186044415) : VJ img [] := ⟨VR.nil h, VOk.nil hl⟩
end Go.Proofs.YthimamnblklkbaaDoor
