/- Texts of one kind, one behind the other: PCa, PCb, PCc, PCd, PI10. -/
import Derived.Test.YthimamnblklkbaaDoorGL
import Derived.Test.YthimamnblklkbaaDoorGI
import Derived.Test.YthimamnblklkbaaDoorGM
set_option linter.unusedVariables false
set_option linter.unusedSimpArgs false
/- Slots and sessions: what the code and its reference come to, by one plain function each. -/
namespace Go.Proofs.YthimamnblklkbaaDoor
open Go Go.RowKit
set_option linter.unusedVariables false
set_option linter.unusedSimpArgs false

variable {img : List Int} {l : List (Int × Int)}
/-- what is so of a view at work. -/
def VJ (img : List Int) (l : List (Int × Int)) : Prop := VR img l ∧ VOk img l
theorem VJ.vput {a x : Int} (h : VJ img l) (hx : U64 x) : VJ img (vput img l a x).2 := by
  unfold Go.Proofs.YthimamnblklkbaaDoor.vput
  split
  · rename_i ha
    cases hl : vlook l a with
    | some y => exact ⟨h.1.put ha hx, h.2.put ha (.inl (by rw [hl]; rfl))⟩
    | none =>
      simp only
      split
      · exact h
      · exact ⟨h.1.put ha hx, h.2.put ha (.inr (by omega))⟩
  · exact h
theorem VJ.vwrite {a x : Int} (h : VJ img l) (hx : U64 x) : VJ img (vwrite img l a x).2 := by
  unfold Go.Proofs.YthimamnblklkbaaDoor.vwrite
  split
  · exact h
  · split
    · exact h
    · exact h.vput hx
theorem VJ.vsets : ∀ {xs : List (Int × Int)} {l : List (Int × Int)}, VJ img l → (∀ p ∈ xs, U64 p.2) → VJ img (vsets img l xs).2
  | [], _, h, _ => h
  | x :: xs, l, h, hx => by
    unfold Go.Proofs.YthimamnblklkbaaDoor.vsets
    split
    · exact VJ.vsets (h.vwrite (hx x (by simp))) fun p hp => hx p (by simp [hp])
    · exact h.vwrite (hx x (by simp))

/-- is the session, and its slot, there? -/
def thereF (img : List Int) (i k : Int) : Int := if i < 0 then 1 else if i ≥ 4 then 1 else if k < 0 then 1 else if k ≥ 4 then 1 else if (img.length : Int) < sessAt i + 64 then 8 else 0
theorem rthere_eq (img : List Int) (i k : Int) : rthere_M img i k = some (thereF img i k) := by
  unfold rthere_M thereF
  have h := sess_range i
  repeat' split
  all_goals first | rfl | skip
  all_goals rw [need, if_pos (by omega)]
  all_goals first | rfl | (simp only [*, if_true, if_false])
theorem thereF_zero {i k : Int} (h : thereF img i k = 0) : 0 ≤ i ∧ i < 4 ∧ 0 ≤ k ∧ k < 4 ∧ sessAt i = 8 + 64 * i ∧ 72 + 64 * i ≤ (img.length : Int) ∧ slotAt i k = 16 + 64 * i + 12 * k := by
  unfold thereF at h
  have hs := sess_range i
  split at h; · omega
  split at h; · omega
  split at h; · omega
  split at h; · omega
  split at h; · omega
  refine ⟨by omega, by omega, by omega, by omega, by omega, by omega, ?_⟩
  unfold slotAt; rw [if_pos (by omega)]
theorem ssess_eq (img : List Int) (i : Int) : ssess_M img i = some (if thereF img i 0 = 0 then sessAt i else 0, thereF img i 0) := by
  unfold ssess_M thereF
  have h := sess_range i
  by_cases h1 : i < 0
  · rw [if_pos (by omega), if_pos h1, if_neg (by decide)]
  · by_cases h2 : i ≥ 4
    · rw [if_pos (by omega), if_neg h1, if_pos h2, if_neg (by decide)]
    · have e : (if (0 : Int) < 0 then (1 : Int) else if (0 : Int) ≥ 4 then 1 else if (img.length : Int) < sessAt i + 64 then 8 else 0) = if (img.length : Int) < sessAt i + 64 then 8 else 0 := by simp
      rw [if_neg (by omega), need, if_pos (by omega), if_neg h1, if_neg h2, e]
      split <;> simp
theorem sfind_eq (img : List Int) (i k : Int) : ∃ a, sfind_M img i k = some (a, thereF img i k) ∧ (thereF img i k = 0 → a = slotAt i k) := by
  unfold sfind_M
  rw [ssess_eq]
  by_cases h : slotAt i k < 0
  · refine ⟨0, ?_, ?_⟩
    · rw [if_pos h]
      have : thereF img i k = 1 := by
        unfold slotAt at h
        unfold thereF
        split at h
        · omega
        · rename_i hn
          repeat' split
          all_goals first | rfl | skip
          all_goals exact absurd ⟨⟨by omega, by omega⟩, by omega, by omega⟩ hn
      rw [this]
    · intro h0
      have := thereF_zero h0
      omega
  · refine ⟨slotAt i k, ?_, fun _ => rfl⟩
    rw [if_neg h]
    unfold slotAt at h
    split at h
    · rename_i hn
      simp only [Option.bind]
      have e : thereF img i k = thereF img i 0 := by
        unfold thereF
        simp only [show ¬ i < 0 by omega, show ¬ i ≥ 4 by omega, show ¬ k < 0 by omega, show ¬ k ≥ 4 by omega, if_false]
        simp
      rw [e]
    · omega

/-- a session's own words. -/
def getF (img : List Int) (l : List (Int × Int)) (i : Int) : Bool × Int × Int × Int :=
  if thereF img i 0 = 0 then (if vget img l (sessAt i) > 1 then (false, 0, 0, 4) else (decide (vget img l (sessAt i) = 1), vget img l (sessAt i + 1), vget img l (sessAt i + 2), 0)) else (false, 0, 0, thereF img i 0)
theorem sget_eq (img : List Int) (l : List (Int × Int)) (i : Int) : sget_M img l i = some (getF img l i) := by
  unfold sget_M getF
  rw [ssess_eq]
  simp only [Option.bind]
  by_cases h : thereF img i 0 = 0
  · have := thereF_zero h
    rw [if_pos h, if_pos h, if_pos h]
    by_cases h2 : vget img l (sessAt i) > 1
    · rw [if_pos h2, if_pos h2]
    · rw [if_neg h2, if_neg h2, need, if_pos (by omega), need, if_pos (by omega)]
  · rw [if_neg h, if_neg h]
theorem rget10_eq (img : List Int) (l : List (Int × Int)) (i : Int) : rget10_M img l i = some (getF img l i) := by
  unfold rget10_M getF
  rw [rthere_eq]
  simp only [Option.bind]
  by_cases h : thereF img i 0 = 0
  · have := thereF_zero h
    rw [if_pos h, if_pos h]
    by_cases h2 : vget img l (sessAt i) > 1
    · rw [if_pos h2, if_pos h2]
    · rw [if_neg h2, if_neg h2, need, if_pos (by omega), need, if_pos (by omega)]
  · rw [if_neg h, if_neg h]

/-- a session's words put. -/
def putF (img : List Int) (l : List (Int × Int)) (i : Int) (o : Bool) (g k : Int) : Int × List (Int × Int) :=
  if thereF img i 0 = 0 then vsets img l [(sessAt i, if o = true then 1 else 0), (sessAt i + 1, g), (sessAt i + 2, k)] else (thereF img i 0, l)
theorem sput_eq (img : List Int) (l : List (Int × Int)) (i : Int) (o : Bool) (g k : Int) : sput_M img l i o g k = some (putF img l i o g k) := by
  unfold sput_M putF sput_J1
  rw [ssess_eq]
  simp only [Option.bind]
  by_cases h : thereF img i 0 = 0
  · have := thereF_zero h
    rw [if_pos h, if_pos h, if_pos h]
    cases o
    · simp only [Bool.false_eq_true, if_false]
      rw [need, if_pos (by omega), need, if_pos (by omega)]
    · simp only [if_true]
      rw [need, if_pos (by omega), need, if_pos (by omega)]
  · rw [if_neg h, if_neg h]
theorem vwrites_vsets (img : List Int) (at_ : Int) : ∀ (ws : List Int) (l : List (Int × Int)) (i : Int), vwrites img at_ l i ws = vsets img l ((List.range ws.length).map fun (j : Nat) => (at_ + (i + (j : Int)), ws.getD j 0))
  | [], _, _ => rfl
  | x :: xs, l, i => by
    unfold vwrites
    rw [List.length_cons, List.range_succ_eq_map, List.map_cons, List.map_map]
    unfold vsets
    simp only [Int.natCast_zero, Int.add_zero, List.getD_cons_zero]
    split
    · rw [vwrites_vsets img at_ xs]
      congr 1
      refine List.map_congr_left fun j _ => ?_
      simp only [Function.comp, Nat.succ_eq_add_one, List.getD_cons_succ, Int.natCast_add, Int.natCast_one]
      congr 2
      omega
    · rfl
theorem rput10_eq (img : List Int) (l : List (Int × Int)) (i : Int) (o : Bool) (g k : Int) : rput10_M img l i o g k = some (putF img l i o g k) := by
  unfold rput10_M putF rput10_J1
  rw [rthere_eq]
  simp only [Option.bind]
  by_cases h : thereF img i 0 = 0
  · have := thereF_zero h
    rw [if_pos h, if_pos h]
    have e : ∀ p : Int, vwrites img (sessAt i) l 0 [p, g, k] = vsets img l [(sessAt i, p), (sessAt i + 1, g), (sessAt i + 2, k)] := by
      intro p
      rw [vwrites_vsets]
      simp [List.range_succ]
    cases o
    · simp only [Bool.false_eq_true, if_false]
      rw [need, if_pos (by omega), e]
    · simp only [if_true]
      rw [need, if_pos (by omega), e]
  · rw [if_neg h, if_neg h]
theorem VJ.putF {i : Int} {o : Bool} {g k : Int} (h : VJ img l) (hg : U64 g) (hk : U64 k) : VJ img (putF img l i o g k).2 := by
  unfold Go.Proofs.YthimamnblklkbaaDoor.putF
  split
  · refine h.vsets ?_
    intro p hp
    simp only [List.mem_cons, List.not_mem_nil, or_false] at hp
    rcases hp with rfl | rfl | rfl
    · simp only; unfold U64; split <;> omega
    · exact hg
    · exact hk
  · exact h
end Go.Proofs.YthimamnblklkbaaDoor

/- Slots: what is loaded, what is wiped. -/
namespace Go.Proofs.YthimamnblklkbaaDoor
open Go Go.RowKit
set_option linter.unusedVariables false
set_option linter.unusedSimpArgs false

variable {img : List Int} {l : List (Int × Int)}
/-- the bytes that words hold. -/
def bytesF (ws : List Int) (n : Nat) : List Int := (List.range n).map fun (j : Nat) => shrK .u64 (ws.getD (j / 8) 0) (8 * ((j % 8 : Nat) : Int)) % 256
theorem bytesF_succ (ws : List Int) (n : Nat) : bytesF ws (n + 1) = bytesF ws n ++ [shrK .u64 (ws.getD (n / 8) 0) (8 * ((n % 8 : Nat) : Int)) % 256] := by
  unfold bytesF
  rw [List.range_succ, List.map_append]
  rfl
theorem bytesF_len (ws : List Int) (n : Nat) : (bytesF ws n).length = n := by unfold bytesF; simp
theorem quo8 {p : Int} (h : 0 ≤ p) : p.tdiv 8 = p / 8 := Int.tdiv_eq_ediv_of_nonneg h
theorem rem8 {p : Int} (h : 0 ≤ p) : p.tmod 8 = p % 8 := Int.tmod_eq_emod_of_nonneg h
theorem runpack_eq {ws : List Int} {n : Int} (h0 : 0 ≤ n) (hn : n ≤ 8 * (ws.length : Int)) (hl : ws.length ≤ 1000) : runpack_M ws n = some (strOfNums (bytesF ws n.toNat), 0) := by
  unfold runpack_M
  rw [if_neg (by omega), need, if_pos (by omega), if_neg (by omega)]
  refine iter_run (fun s => 0 ≤ s.2 ∧ s.2 ≤ n ∧ s.1 = bytesF ws s.2.toNat) (fun s => (n - s.2).toNat) ?_ _ _ ⟨by simp, by simp; omega, rfl⟩ (fuel_lt (by simp only; omega))
  rintro k ⟨q, p⟩ ⟨h1, h2, h3⟩ ih
  simp only at h1 h2 h3 ih
  subst h3
  unfold runpack_B0
  simp only
  by_cases h : p < n
  · rw [if_pos h, quo8 h1, rem8 h1, bytesF_len]
    refine need_of (by omega) (need_of (by omega) (need_of (by omega) (need_of (by omega) (need_of (by omega) (need_of (by omega) (need_of (by omega) (ih _ ⟨by simp only; omega, by simp only; omega, ?_⟩ (by simp only; omega))))))))
    simp only
    rw [show (p + 1).toNat = p.toNat + 1 by omega, bytesF_succ, show (p / 8).toNat = p.toNat / 8 by omega, show ((p.toNat % 8 : Nat) : Int) = p % 8 by omega]
  · rw [if_neg h, show p = n by omega]
theorem unpack_eq {ws : List Int} {n : Int} (h0 : 0 ≤ n) (hn : n ≤ 8 * (ws.length : Int)) (hl : ws.length ≤ 1000) : unpack_M ws n = some (strOfNums (bytesF ws n.toNat), 0) := by
  unfold unpack_M
  rw [if_neg (by omega), need, if_pos (by omega), if_neg (by omega), need, if_pos (by omega)]
  refine iter_run (fun s => 0 ≤ s.2 ∧ s.2 ≤ n ∧ s.1.length = n.toNat ∧ s.1.take s.2.toNat = bytesF ws s.2.toNat) (fun s => (n - s.2).toNat) ?_ _ _ ⟨by simp, by simp; omega, by simp, rfl⟩ (fuel_lt (by simp only; omega))
  rintro k ⟨q, p⟩ ⟨h1, h2, h3, h4⟩ ih
  simp only at h1 h2 h3 h4 ih
  unfold unpack_B0
  simp only
  by_cases h : p < n
  · rw [if_pos (by omega), quo8 h1, rem8 h1]
    refine need_of (by omega) (need_of (by omega) (need_of (by omega) (need_of (by omega) (need_of (by omega) (need_of (by omega) (need_of (by omega) (ih _ ⟨by simp only; omega, by simp only; omega, by simp only [List.length_set]; exact h3, ?_⟩ (by simp only; omega))))))))
    simp only
    rw [show (p + 1).toNat = p.toNat + 1 by omega, bytesF_succ, ← h4, show (p / 8).toNat = p.toNat / 8 by omega, show ((p.toNat % 8 : Nat) : Int) = p % 8 by omega]
    have hlt : p.toNat < q.length := by omega
    rw [List.take_add_one, List.take_set_of_le (Nat.le_refl _)]
    simp [hlt]
  · rw [if_neg (by omega)]
    refine need_of (by omega) ?_
    have e : p = n := by omega
    subst e
    rw [List.take_of_length_le (by omega)] at h4
    rw [h4]

/-- a slot's number and result. -/
def loadF (img : List Int) (l : List (Int × Int)) (i k : Int) : Int × Int × Int × Int × ByteArray × Int :=
  if thereF img i k = 0 then
    if vget img l (slotAt i k) = 0 then (0, 0, 0, 0, ByteArray.empty, 0)
    else if (vget img l (slotAt i k + 1)).tmod 256 > 24 then (0, 0, 0, 0, ByteArray.empty, 4)
    else if (vget img l (slotAt i k + 1)).tdiv 256 > 64 then (0, 0, 0, 0, ByteArray.empty, 4)
    else (vget img l (slotAt i k), (vget img l (slotAt i k + 1)).tmod 256, vget img l (slotAt i k + 2), vget img l (slotAt i k + 3),
      strOfNums (bytesF [vget img l (slotAt i k + 4), vget img l (slotAt i k + 5), vget img l (slotAt i k + 6), vget img l (slotAt i k + 7), vget img l (slotAt i k + 8), vget img l (slotAt i k + 9), vget img l (slotAt i k + 10), vget img l (slotAt i k + 11)] ((vget img l (slotAt i k + 1)).tdiv 256).toNat), 0)
  else (0, 0, 0, 0, ByteArray.empty, thereF img i k)
theorem mod256 {w : Int} (h : U64 w) : w.tmod 256 = w % 256 ∧ w.tdiv 256 = w / 256 := ⟨Int.tmod_eq_emod_of_nonneg h.1, Int.tdiv_eq_ediv_of_nonneg h.1⟩
theorem sload_eq (hv : VR img l) (i k : Int) : sload_M img l i k = some (loadF img l i k) := by
  unfold sload_M
  obtain ⟨a, e, ha⟩ := sfind_eq img i k
  rw [e]
  simp only [Option.bind]
  unfold loadF
  by_cases h : thereF img i k = 0
  · have ht := thereF_zero h
    rw [if_pos h, if_pos h, ha h]
    unfold sload_J1
    by_cases h2 : vget img l (slotAt i k) = 0
    · rw [if_pos h2, if_pos (by simp [h2]), h]
    · rw [if_neg h2, if_neg (by simp [h2])]
      have hw := hv (slotAt i k + 1)
      have hm := mod256 hw
      have hw' : 0 ≤ vget img l (slotAt i k + 1) ∧ vget img l (slotAt i k + 1) < 18446744073709551616 := hw
      generalize vget img l (slotAt i k + 1) = x at *
      refine need_of (by omega) (need_of (by omega) (need_of (by omega) ?_))
      simp only [Option.bind]
      unfold sload_J2
      by_cases h3 : x.tmod 256 > 24
      · rw [if_pos h3, if_pos h3, if_pos rfl]
      · rw [if_neg h3, if_neg h3]
        by_cases h4 : x.tdiv 256 > 64
        · rw [if_pos h4, if_pos (by simp [h4])]
        · rw [if_neg h4, if_neg (by simp [h4])]
          have hu := unpack_eq (ws := [vget img l (slotAt i k + 4), vget img l (slotAt i k + 5), vget img l (slotAt i k + 6), vget img l (slotAt i k + 7), vget img l (slotAt i k + 8), vget img l (slotAt i k + 9), vget img l (slotAt i k + 10), vget img l (slotAt i k + 11)]) (n := x.tdiv 256) (by omega) (by simp only [List.length_cons, List.length_nil]; omega) (by simp)
          rw [hu]
          simp only [Option.bind]
          refine need_of (by omega) (need_of (by omega) (need_of (by omega) (need_of (by omega) (need_of (by omega) (need_of (by omega) (need_of (by omega) (need_of (by omega) (need_of (by omega) ?_))))))))
          rw [if_pos trivial]
          exact need_of (by omega) (need_of (by omega) (need_of (by omega) rfl))
  · rw [if_neg h, if_neg h]
    unfold sload_J1
    rw [if_pos rfl]
theorem rload_eq (hv : VR img l) (i k : Int) : rload_M img l i k = some (loadF img l i k) := by
  unfold rload_M
  rw [rthere_eq]
  simp only [Option.bind]
  unfold loadF
  by_cases h : thereF img i k = 0
  · have ht := thereF_zero h
    rw [if_pos h, if_pos h]
    by_cases h2 : vget img l (slotAt i k) = 0
    · rw [if_pos h2, if_pos h2]
    · rw [if_neg h2, if_neg h2]
      have hw := hv (slotAt i k + 1)
      have hm := mod256 hw
      have hw' : 0 ≤ vget img l (slotAt i k + 1) ∧ vget img l (slotAt i k + 1) < 18446744073709551616 := hw
      generalize vget img l (slotAt i k + 1) = x at *
      refine need_of (by omega) ?_
      unfold rload_J1
      by_cases h3 : x.tmod 256 > 24
      · rw [if_pos h3, if_pos h3, if_pos rfl]
      · rw [if_neg h3, if_neg h3]
        refine need_of (by omega) ?_
        by_cases h4 : x.tdiv 256 > 64
        · rw [if_pos h4, if_pos (by simp [h4])]
        · rw [if_neg h4, if_neg (by simp [h4])]
          have hu := runpack_eq (ws := [vget img l (slotAt i k + 4), vget img l (slotAt i k + 5), vget img l (slotAt i k + 6), vget img l (slotAt i k + 7), vget img l (slotAt i k + 8), vget img l (slotAt i k + 9), vget img l (slotAt i k + 10), vget img l (slotAt i k + 11)]) (n := x.tdiv 256) (by omega) (by simp only [List.length_cons, List.length_nil]; omega) (by simp)
          have ea : ∀ j : Int, slotAt i k + 4 + j = slotAt i k + (4 + j) := fun j => Int.add_assoc _ _ _
          simp only [ea] 
          simp only [show (4 : Int) + 0 = 4 from rfl, show (4 : Int) + 1 = 5 from rfl, show (4 : Int) + 2 = 6 from rfl, show (4 : Int) + 3 = 7 from rfl, show (4 : Int) + 4 = 8 from rfl, show (4 : Int) + 5 = 9 from rfl, show (4 : Int) + 6 = 10 from rfl, show (4 : Int) + 7 = 11 from rfl]
          rw [hu]
          simp only [Option.bind]
          repeat refine need_of (by omega) ?_
          rfl
  · rw [if_neg h, if_neg h]

/-- a session's slots and descriptors made noughts. -/
def wipeL (i : Int) : List (Int × Int) := [(slotAt i 0, 0), (slotAt i 1, 0), (slotAt i 2, 0), (slotAt i 3, 0), (descAt i 0, 0), (descAt i 0 + 1, 0), (descAt i 1, 0), (descAt i 1 + 1, 0), (descAt i 2, 0), (descAt i 2 + 1, 0), (descAt i 3, 0), (descAt i 3 + 1, 0)]
def wipeF (img : List Int) (l : List (Int × Int)) (i : Int) : Int × List (Int × Int) :=
  if thereF img i 0 = 0 then vsets img l (wipeL i) else (thereF img i 0, l)
theorem desc_range (i k : Int) : -1 ≤ descAt i k ∧ descAt i k ≤ 1000 := by
  unfold descAt; split <;> omega
theorem swipe_eq (img : List Int) (l : List (Int × Int)) (i : Int) : swipe_M img l i = some (wipeF img l i) := by
  unfold swipe_M wipeF wipeL
  rw [ssess_eq]
  simp only [Option.bind]
  have h0 := desc_range i 0
  have h1 := desc_range i 1
  have h2 := desc_range i 2
  have h3 := desc_range i 3
  by_cases h : thereF img i 0 = 0
  · rw [if_pos h, if_pos h]
    exact need_of (by omega) (need_of (by omega) (need_of (by omega) (need_of (by omega) rfl)))
  · rw [if_neg h, if_neg h]
theorem vsets_cons (img : List Int) (x : Int × Int) (xs l : List (Int × Int)) : vsets img l (x :: xs) = if (vwrite img l x.1 x.2).1 = 0 then vsets img (vwrite img l x.1 x.2).2 xs else vwrite img l x.1 x.2 := by rw [vsets]
theorem vsets_append (img : List Int) : ∀ (xs ys : List (Int × Int)) (l : List (Int × Int)), vsets img l (xs ++ ys) = if (vsets img l xs).1 = 0 then vsets img (vsets img l xs).2 ys else vsets img l xs
  | [], _, _ => rfl
  | x :: xs, ys, l => by
    rw [List.cons_append, vsets_cons, vsets_cons]
    by_cases h : (vwrite img l x.1 x.2).1 = 0
    · rw [if_pos h, if_pos h, vsets_append img xs ys]
    · rw [if_neg h, if_neg h, if_neg h]
theorem VJ.wipeF {i : Int} (h : VJ img l) : VJ img (wipeF img l i).2 := by
  unfold Go.Proofs.YthimamnblklkbaaDoor.wipeF
  split
  · refine h.vsets ?_
    intro p hp
    unfold wipeL at hp
    simp only [List.mem_cons, List.not_mem_nil, or_false] at hp
    rcases hp with rfl | rfl | rfl | rfl | rfl | rfl | rfl | rfl | rfl | rfl | rfl | rfl <;> exact u64_zero
  · exact h
theorem wipeL_drop (i : Int) {j : Int} (h : 0 ≤ j ∧ j < 4) : (wipeL i).drop j.toNat = (slotAt i j, 0) :: (wipeL i).drop (j + 1).toNat := by
  have : j = 0 ∨ j = 1 ∨ j = 2 ∨ j = 3 := by omega
  rcases this with rfl | rfl | rfl | rfl <;> rfl
theorem wipeL_drop2 (i : Int) {j : Int} (h : 0 ≤ j ∧ j < 4) : (wipeL i).drop (4 + 2 * j.toNat) = [(descAt i j, 0), (descAt i j + 1, 0)] ++ (wipeL i).drop (4 + 2 * (j + 1).toNat) := by
  have : j = 0 ∨ j = 1 ∨ j = 2 ∨ j = 3 := by omega
  rcases this with rfl | rfl | rfl | rfl <;> rfl
theorem rwipe10_eq (img : List Int) (l : List (Int × Int)) (i : Int) : rwipe10_M img l i = some (wipeF img l i) := by
  unfold rwipe10_M
  rw [rthere_eq]
  simp only [Option.bind]
  have J : ∀ (m : List (Int × Int)) (p : Int), (if p = 0 then vsets img m ((wipeL i).drop 4) else (p, m)) = wipeF img l i → rwipe10_J1 img i m p = some (wipeF img l i) := by
    intro m p hm
    unfold rwipe10_J1
    refine iter_run (fun s => 0 ≤ s.2.2 ∧ s.2.2 ≤ 4 ∧ (if s.2.1 = 0 then vsets img s.1 ((wipeL i).drop (4 + 2 * s.2.2.toNat)) else (s.2.1, s.1)) = wipeF img l i) (fun s => (4 - s.2.2).toNat) ?_ _ _ ⟨by simp, by simp, hm⟩ (fuel_lt (by simp only; omega))
    rintro k ⟨m, p, j⟩ ⟨h1, h2, h3⟩ ih
    simp only at h1 h2 h3 ih
    unfold rwipe10_B1
    simp only
    by_cases h : j < 4
    · rw [if_pos h]
      by_cases hp : p = 0
      · rw [if_pos hp] at h3 ⊢
        have hd := desc_range i j
        refine need_of (by omega) ?_
        simp only [Option.bind]
        refine need_of (by omega) ?_
        refine ih _ ⟨by simp only; omega, by simp only; omega, ?_⟩ (by simp only; omega)
        simp only
        rw [wipeL_drop2 i ⟨h1, h⟩, vsets_append] at h3
        have e : vwrites img (descAt i j) m 0 [0, 0] = vsets img m [(descAt i j, 0), (descAt i j + 1, 0)] := by
          rw [vwrites_vsets]; simp [List.range_succ]
        rw [e]
        exact h3
      · rw [if_neg hp] at h3 ⊢
        rw [h3]
    · rw [if_neg h]
      have e : j = 4 := by omega
      subst e
      by_cases hp : p = 0
      · subst hp
        rw [if_pos rfl] at h3
        rw [← h3]
        rfl
      · rw [if_neg hp] at h3
        rw [h3]
  refine iter_run (fun s => 0 ≤ s.2.2 ∧ s.2.2 ≤ 4 ∧ (if s.2.1 = 0 then vsets img s.1 ((wipeL i).drop s.2.2.toNat) else (s.2.1, s.1)) = wipeF img l i) (fun s => (4 - s.2.2).toNat) ?_ _ _ ⟨by simp, by simp, ?_⟩ (fuel_lt (by simp only; omega))
  · rintro k ⟨m, p, j⟩ ⟨h1, h2, h3⟩ ih
    simp only at h1 h2 h3 ih
    unfold rwipe10_B0
    simp only
    by_cases h : j < 4
    · rw [if_pos h]
      by_cases hp : p = 0
      · rw [if_pos hp] at h3 ⊢
        simp only [Option.bind]
        refine need_of (by omega) ?_
        refine ih _ ⟨by simp only; omega, by simp only; omega, ?_⟩ (by simp only; omega)
        simp only
        rw [wipeL_drop i ⟨h1, h⟩] at h3
        exact h3
      · rw [if_neg hp] at h3 ⊢
        exact J m p (by rw [if_neg hp]; exact h3)
    · rw [if_neg h]
      have e : j = 4 := by omega
      subst e
      exact J m p h3
  · simp only
    rfl
end Go.Proofs.YthimamnblklkbaaDoor

/- Classes: the code's answers are the reference's. -/
namespace Go.Proofs.YthimamnblklkbaaDoor
open Go Go.RowKit
set_option linter.unusedVariables false
set_option linter.unusedSimpArgs false

variable {img : List Int} {l : List (Int × Int)}
theorem cmay_eq (q t : Int) : cmay_M q t = some (if q < t ∨ q > 1099511627776 then 1 else 0) := by
  unfold cmay_M
  by_cases h : q < t
  · rw [if_pos h, if_pos h, if_pos (Or.inl h)]
  · by_cases h2 : q > 1099511627776
    · rw [if_neg h, if_pos h2, if_pos (Or.inr h2)]
    · rw [if_neg h, if_neg h2, if_neg (by omega)]
theorem copened_eq (img : List Int) (l : List (Int × Int)) (i g : Int) : copened_M img l i g = ropened_M img l i g := by
  unfold copened_M ropened_M
  rw [sget_eq, rget10_eq]
  rfl
/-- a session's words, if it is open so. -/
def openedF (img : List Int) (l : List (Int × Int)) (i g : Int) : Bool × Int × Int × Int :=
  ((getF img l i).1, (getF img l i).2.1, (getF img l i).2.2.1, if (getF img l i).2.2.2 = 0 then (if (getF img l i).1 = true then (if (getF img l i).2.1 = g then 0 else 22) else 22) else (getF img l i).2.2.2)
theorem ropened_eq (img : List Int) (l : List (Int × Int)) (i g : Int) : ropened_M img l i g = some (openedF img l i g) := by
  unfold ropened_M openedF ropened_J1
  rw [rget10_eq]
  simp only [Option.bind]
  generalize getF img l i = x
  by_cases h : x.2.2.2 = 0
  · rw [if_pos h, if_pos h, h]
    by_cases h1 : x.1 = true
    · rw [if_pos h1, if_pos h1]
      by_cases h2 : x.2.1 = g
      · rw [if_pos h2, if_pos h2]
      · rw [if_neg h2, if_neg h2]
    · rw [if_neg h1, if_neg h1]
  · rw [if_neg h, if_neg h]
theorem cof_eq (hv : VR img l) (i g q : Int) : cof_M img l i g q = rof_M img l i g q := by
  unfold cof_M rof_M
  rw [cmay_eq]
  simp only [Option.bind]
  by_cases h : q < 1
  · rw [if_pos (Or.inl h), if_neg (by decide), if_pos h]; rfl
  · by_cases h2 : q > 1099511627776
    · rw [if_pos (Or.inr h2), if_neg (by decide), if_neg h, decide_eq_true h2]; rfl
    · rw [if_neg (show ¬ (q < 1 ∨ q > 1099511627776) by omega), if_pos rfl, if_neg h, decide_eq_false h2]
      unfold rof_J1
      rw [if_neg (by decide), copened_eq, ropened_eq]
      simp only [Option.bind]
      generalize openedF img l i g = x
      by_cases h3 : x.2.2.2 = 0
      · rw [if_pos h3, if_pos h3]
        by_cases h4 : q ≤ x.2.2.1
        · rw [if_pos h4, if_pos h4]
        · rw [if_neg h4, if_neg h4]
          by_cases h5 : (q - x.2.2.1) % 18446744073709551616 > 4
          · rw [if_pos h5, if_pos h5]
          · rw [if_neg h5, if_neg h5, sload_eq hv, rload_eq hv]
            simp only [Option.bind]
            generalize loadF img l i (q.tmod 4) = y
            unfold cof_J1
            by_cases h6 : y.2.2.2.2.2 = 0
            · by_cases h7 : y.1 = q
              · simp [h6, h7]
              · simp [h6, h7]
            · simp [h6]
      · rw [if_neg h3, if_neg h3]
theorem cackJ_eq (img : List Int) (l : List (Int × Int)) (i : Int) (r : Bool × Int × Int × Int) (p : Int) : cack_J1 img l i r p = rack_J1 img l i r p := by
  unfold cack_J1 rack_J1
  rw [sput_eq, rput10_eq]
theorem cackB_eq (hv : VR img l) (i q : Int) (r : Bool × Int × Int × Int) (k : Int → Option (Int × Int × List (Int × Int))) (p : Int) : cack_B0 img l i q r k p = rack_B0 img l i q r k p := by
  unfold cack_B0 rack_B0
  rw [cackJ_eq]
  simp only [Option.bind]
  rw [sload_eq hv, rload_eq hv]
theorem cack_eq (hv : VR img l) (i g : Int) {q : Int} (hq : 0 ≤ q) : cack_M img l i g q = rack_M img l i g q := by
  unfold cack_M rack_M
  rw [cmay_eq]
  simp only [Option.bind]
  by_cases h2 : q > 1099511627776
  · rw [if_pos (Or.inr h2), if_neg (by decide), if_pos h2]
  · rw [if_neg (show ¬ (q < 0 ∨ q > 1099511627776) by omega), if_pos rfl, if_neg h2, copened_eq]
    simp only [cackB_eq hv]
theorem getF_u64 (hv : VR img l) (i : Int) : U64 (getF img l i).2.1 ∧ U64 (getF img l i).2.2.1 := by
  unfold getF
  split
  · split
    · exact ⟨u64_zero, u64_zero⟩
    · exact ⟨hv _, hv _⟩
  · exact ⟨u64_zero, u64_zero⟩
theorem copen_eq (hv : VR img l) (i g : Int) : copen_M img l i g = ropen_M img l i g := by
  unfold copen_M ropen_M
  rw [cmay_eq, sget_eq, rget10_eq]
  simp only [Option.bind]
  by_cases h : g < 1
  · rw [if_pos (Or.inl h), if_neg (by decide), if_pos h]
  · by_cases h2 : g > 1099511627776
    · rw [if_pos (Or.inr h2), if_neg (by decide), if_neg h, if_pos h2]
    · rw [if_neg (show ¬ (g < 1 ∨ g > 1099511627776) by omega), if_pos rfl, if_neg h, if_neg h2]
      have hu := (getF_u64 hv i).1
      generalize getF img l i = x at *
      obtain ⟨o, n, m, e⟩ := x
      simp only at hu ⊢
      unfold U64 at hu
      have eJ : copen_J1 img l i g = ((rput10_M img l i true g 0).bind fun r37 => if r37.1 = 0 then ((rwipe10_M img r37.2 i).bind fun r46 => some (0, r46.1, r46.2)) else (some (0, r37.1, r37.2))) := by
        unfold copen_J1
        rw [sput_eq, rput10_eq]
        simp only [Option.bind, swipe_eq, rwipe10_eq]
      unfold copen_J2 ropen_J1
      rw [eJ]
      by_cases h3 : e = 0
      · simp only [h3, if_true]
        cases o
        · simp only [Bool.false_eq_true, if_false]
          by_cases h4 : g ≤ n
          · rw [if_pos h4, if_pos h4]
          · rw [if_neg h4, if_neg h4]
            by_cases h5 : (g - n) % 18446744073709551616 = 1
            · rw [if_pos h5, if_neg (by omega)]
            · rw [if_neg h5, if_pos (by omega)]
        · simp only [if_true, decide_eq_true_eq]
      · simp only [h3, if_false]
theorem cclose_eq (hv : VR img l) (i g : Int) : cclose_M img l i g = rclose_M img l i g := by
  unfold cclose_M rclose_M
  rw [cmay_eq, sget_eq, rget10_eq]
  simp only [Option.bind]
  by_cases h : g < 1
  · rw [if_pos (Or.inl h), if_neg (by decide), if_pos h]
  · by_cases h2 : g > 1099511627776
    · rw [if_pos (Or.inr h2), if_neg (by decide), if_neg h, if_pos h2]
    · rw [if_neg (show ¬ (g < 1 ∨ g > 1099511627776) by omega), if_pos rfl, if_neg h, if_neg h2]
      simp only [sput_eq, rput10_eq]

/-! ### the reference's answers are there -/
theorem rof_ok (hv : VR img l) (i g : Int) {q : Int} (hq : U64 q) : Ok (fun r => 0 ≤ r.1 ∧ r.1 ≤ 3) (rof_M img l i g q) := by
  unfold rof_M
  have J : ∀ b, Ok (fun r => 0 ≤ r.1 ∧ r.1 ≤ 3) (rof_J1 img l i g q b) := by
    intro b
    unfold rof_J1
    rw [ropened_eq]
    unfold U64 at hq
    have h4 := Int.tmod_eq_emod_of_nonneg (b := 4) hq.1
    refine Ok.ite (fun _ => Ok.some (by simp)) fun _ => ?_
    simp only [Option.bind]
    refine Ok.ite (fun _ => ?_) (fun _ => Ok.some (by simp))
    refine Ok.ite (fun _ => Ok.some (by simp)) fun _ => ?_
    refine Ok.ite (fun _ => Ok.some (by simp)) fun _ => ?_
    refine Ok.need (by omega) ?_
    rw [rload_eq hv]
    simp only [Option.bind]
    refine Ok.ite (fun _ => ?_) (fun _ => Ok.some (by simp))
    exact Ok.ite (fun _ => Ok.some (by simp)) fun _ => Ok.some (by simp)
  exact Ok.ite (fun _ => J _) fun _ => J _
theorem rack_ok (h : VJ img l) (i : Int) {g q : Int} (hg : U64 g) (hq : U64 q) : Ok (fun r => VJ img r.2.2) (rack_M img l i g q) := by
  unfold rack_M
  refine Ok.ite (fun _ => Ok.some h) fun h1 => ?_
  rw [ropened_eq]
  simp only [Option.bind]
  refine Ok.ite (fun _ => ?_) (fun _ => Ok.some h)
  have hu := getF_u64 h.1 i
  have hm : U64 (openedF img l i g).2.2.1 := hu.2
  have hn : U64 (openedF img l i g).2.1 := hu.1
  generalize openedF img l i g = x at *
  unfold U64 at hq
  have J : ∀ p, U64 p → Ok (fun r : Int × Int × List (Int × Int) => VJ img r.2.2) (rack_J1 img l i x p) := by
    intro p hp
    unfold rack_J1
    rw [rput10_eq]
    simp only [Option.bind]
    have := h.putF (i := i) (o := x.1) hn hp
    exact Ok.ite (fun _ => Ok.some this) fun _ => Ok.some this
  refine Ok.iter (fun s => U64 s) (fun s => (q - s).toNat) ?_ _ _ hm (fuel_lt (by unfold U64 at hm; omega))
  intro k p hp ih
  have hp' := hp
  unfold U64 at hp'
  unfold rack_B0
  refine Ok.ite (fun h2 => ?_) (fun _ => J p hp)
  have h4 := Int.tmod_eq_emod_of_nonneg (a := (p + 1) % 18446744073709551616) (b := 4) (by omega)
  refine Ok.need (by omega) ?_
  rw [rload_eq h.1]
  simp only [Option.bind]
  refine Ok.ite (fun _ => ?_) (fun _ => Ok.some h)
  refine Ok.ite (fun _ => ih _ (by unfold U64; omega) (by omega)) (fun _ => J p hp)
theorem ropen_ok (h : VJ img l) (i : Int) {g : Int} (hg : U64 g) : Ok (fun r => (0 ≤ r.1 ∧ r.1 ≤ 3) ∧ VJ img r.2.2) (ropen_M img l i g) := by
  unfold ropen_M
  refine Ok.ite (fun _ => Ok.some ⟨by simp, h⟩) fun _ => ?_
  refine Ok.ite (fun _ => Ok.some ⟨by simp, h⟩) fun _ => ?_
  rw [rget10_eq]
  simp only [Option.bind]
  refine Ok.ite (fun _ => ?_) (fun _ => Ok.some ⟨by simp, h⟩)
  generalize getF img l i = x
  have J : Ok (fun r : Int × Int × List (Int × Int) => (0 ≤ r.1 ∧ r.1 ≤ 3) ∧ VJ img r.2.2) (ropen_J1 img l i g x) := by
    unfold ropen_J1
    refine Ok.ite (fun _ => Ok.some ⟨by simp, h⟩) fun _ => ?_
    refine Ok.ite (fun _ => Ok.some ⟨by simp, h⟩) fun _ => ?_
    refine Ok.ite (fun _ => ?_) (fun _ => Ok.some ⟨by simp, h⟩)
    rw [rput10_eq]
    simp only [Option.bind]
    have hp := h.putF (i := i) (o := true) hg u64_zero
    refine Ok.ite (fun _ => ?_) (fun _ => Ok.some ⟨by simp, hp⟩)
    rw [rwipe10_eq]
    exact Ok.some ⟨by simp, hp.wipeF⟩
  refine Ok.ite (fun _ => ?_) (fun _ => J)
  exact Ok.ite (fun _ => Ok.some ⟨by simp, h⟩) (fun _ => J)
theorem rclose_ok (h : VJ img l) (i : Int) {g : Int} (hg : U64 g) : Ok (fun r => (0 ≤ r.1 ∧ r.1 ≤ 3) ∧ VJ img r.2.2) (rclose_M img l i g) := by
  unfold rclose_M
  refine Ok.ite (fun _ => Ok.some ⟨by simp, h⟩) fun _ => ?_
  refine Ok.ite (fun _ => Ok.some ⟨by simp, h⟩) fun _ => ?_
  rw [rget10_eq]
  simp only [Option.bind]
  refine Ok.ite (fun _ => ?_) (fun _ => Ok.some ⟨by simp, h⟩)
  refine Ok.ite (fun _ => Ok.some ⟨by simp, h⟩) fun _ => ?_
  refine Ok.ite (fun _ => Ok.some ⟨by simp, h⟩) fun _ => ?_
  refine Ok.ite (fun _ => ?_) (fun _ => Ok.some ⟨by simp, h⟩)
  rw [rput10_eq]
  have hu := getF_u64 h.1 i
  exact Ok.some ⟨by simp, h.putF hu.1 hu.2⟩
end Go.Proofs.YthimamnblklkbaaDoor

/- What is saved, in both views. -/
namespace Go.Proofs.YthimamnblklkbaaDoor
open Go Go.RowKit
set_option linter.unusedVariables false
set_option linter.unusedSimpArgs false

variable {img : List Int} {l : List (Int × Int)}
theorem rpack_ok {s : ByteArray} (hs : s.size ≤ 64) : Ok (fun ws : List Int => ws.length ≤ 100 ∧ ∀ x ∈ ws, U64 x) (rpack_M s) := by
  unfold rpack_M
  refine Ok.iter (fun t => t.2.1 = t.1.length ∧ 0 ≤ t.2.2 ∧ t.2.2 ≤ (s.size : Int) ∧ (t.1.length : Int) = (t.2.2 + 7) / 8 ∧ ∀ x ∈ t.1, U64 x) (fun t => ((s.size : Int) - t.2.2).toNat) ?_ _ _ ⟨rfl, by simp, by simp, by simp, by simp⟩ (fuel_lt (by simp only; omega))
  rintro k ⟨q, n, p⟩ ⟨h1, h2, h3, h4, h5⟩ ih
  simp only at h1 h2 h3 h4 h5 ih
  subst h1
  unfold rpack_B0
  simp only
  have J : ∀ q' : List Int, p < (s.size : Int) → (q'.length : Int) = (p + 8) / 8 → (∀ x ∈ q', U64 x) → Ok (fun ws : List Int => ws.length ≤ 100 ∧ ∀ x ∈ ws, U64 x) (rpack_J2 s k p q' q'.length) := by
    intro q' hp hl hu
    unfold rpack_J2
    have hb := sbyte_range s p
    rw [quo8 h2, rem8 h2]
    refine Ok.need (by omega) (Ok.need (by omega) (Ok.need (by omega) (Ok.need (by omega) (Ok.need (by omega) (Ok.need (by omega) (Ok.need (by omega) (Ok.need (by omega) (Ok.need (by omega) (Ok.need (by omega) (Ok.need (by omega) (Ok.need (by omega) ?_)))))))))))
    refine ih _ ⟨by simp only [List.length_set], by simp only; omega, by simp only; omega, by simp only [List.length_set]; omega, ?_⟩ (by simp only; omega)
    intro x hx
    simp only at hx
    rcases List.mem_or_eq_of_mem_set hx with h | h
    · exact hu x h
    · rw [h]; unfold U64; omega
  refine Ok.ite (fun hp => ?_) (fun hp => ?_)
  · refine Ok.ite (fun h0 => ?_) (fun h0 => ?_)
    · rw [rem8 h2] at h0
      refine Ok.need (by omega) (J _ hp (by rw [List.length_append]; simp only [List.length_cons, List.length_nil]; omega) ?_)
      intro x hx
      rcases List.mem_append.1 hx with h | h
      · exact h5 x h
      · simp only [List.mem_singleton] at h; subst h; exact u64_zero
    · rw [rem8 h2] at h0
      exact J q hp (by omega) h5
  · first | exact Ok.need rfl (Ok.some ⟨by omega, h5⟩) | exact Ok.some ⟨by omega, h5⟩

/-! ### places stay where they are -/
theorem pre_vset (l : List (Int × Int)) (a x : Int) : (l.map (·.1)) <+: ((vset l a x).map (·.1)) := by
  cases h : vlook l a with
  | some y => rw [vset_keys_some (by rw [h]; rfl)]; exact List.prefix_refl _
  | none => rw [vset_none h, List.map_append]; exact List.prefix_append _ _
theorem pre_vput (img : List Int) (l : List (Int × Int)) (a x : Int) : (l.map (·.1)) <+: ((vput img l a x).2.map (·.1)) := by
  unfold vput
  split
  · cases h : vlook l a with
    | some y => exact pre_vset l a x
    | none =>
      simp only
      split
      · exact List.prefix_refl _
      · exact pre_vset l a x
  · exact List.prefix_refl _
theorem pre_vwrite (img : List Int) (l : List (Int × Int)) (a x : Int) : (l.map (·.1)) <+: ((vwrite img l a x).2.map (·.1)) := by
  unfold vwrite
  split
  · exact List.prefix_refl _
  · split
    · exact List.prefix_refl _
    · exact pre_vput img l a x
theorem pre_vsets (img : List Int) : ∀ (xs l : List (Int × Int)), (l.map (·.1)) <+: ((vsets img l xs).2.map (·.1))
  | [], _ => List.prefix_refl _
  | x :: xs, l => by
    rw [vsets_cons]
    split
    · exact (pre_vwrite img l x.1 x.2).trans (pre_vsets img xs _)
    · exact pre_vwrite img l x.1 x.2

theorem rsave_ok (h : VJ img l) (i k : Int) {q re ra rb : Int} {rs : ByteArray} (hq : U64 q) (ha : U64 ra) (hb : U64 rb) :
    Ok (fun r => VJ img r.2 ∧ (l.map (·.1)) <+: (r.2.map (·.1))) (rsave_M img l i k q re ra rb rs) := by
  unfold rsave_M
  have E : ∀ e : Int, Ok (fun r : Int × List (Int × Int) => VJ img r.2 ∧ (l.map (·.1)) <+: (r.2.map (·.1))) (some (e, l)) := fun e => Ok.some ⟨h, List.prefix_refl _⟩
  refine Ok.ite (fun _ => E _) fun h1 => ?_
  refine Ok.ite (fun _ => E _) fun h2 => ?_
  refine Ok.ite (fun _ => E _) fun h3 => ?_
  refine Ok.ite (fun _ => E _) fun h4 => ?_
  refine Ok.ite (fun _ => E _) fun h5 => ?_
  refine Ok.ite (fun _ => E _) fun h6 => ?_
  have hm : Ok (fun b : Bool => b = true → (0 ≤ re ∧ re ≤ 24) ∧ rs.size ≤ 64) (rmay10_M re rs) := by
    unfold rmay10_M
    refine Ok.ite (fun a1 => ?_) (fun _ => Ok.some (by simp))
    refine Ok.ite (fun a2 => Ok.some fun a3 => ?_) (fun _ => Ok.some (by simp))
    have := of_decide_eq_true a3
    omega
  refine Ok.bind hm fun b hb2 => ?_
  refine Ok.ite (fun h7 => ?_) (fun _ => E _)
  have hr := hb2 h7
  rw [rthere_eq]
  simp only [Option.bind]
  refine Ok.ite (fun h8 => ?_) (fun _ => E _)
  have ht := thereF_zero h8
  refine Ok.need (by omega) (Ok.need (by omega) ?_)
  refine Ok.bind (rpack_ok hr.2) fun ws hws => ?_
  refine Ok.need (by omega) (Ok.need (by omega) (Ok.need (by simp only [List.length_append, List.length_cons, List.length_nil]; omega) (Ok.need (by omega) ?_)))
  rw [vwrites_vsets]
  have hx : ∀ p ∈ ((List.range ([(re + 256 * (rs.size : Int) % 18446744073709551616) % 18446744073709551616, ra, rb] ++ ws).length).map fun (j : Nat) => (slotAt i k + 1 + (0 + (j : Int)), ([(re + 256 * (rs.size : Int) % 18446744073709551616) % 18446744073709551616, ra, rb] ++ ws).getD j 0)), U64 p.2 := by
    intro p hp
    obtain ⟨j, hj, rfl⟩ := List.mem_map.1 hp
    simp only
    rw [List.getD_eq_getElem?_getD, List.getElem?_eq_getElem (List.mem_range.1 hj), Option.getD_some]
    have hmem := List.getElem_mem (List.mem_range.1 hj)
    generalize ([(re + 256 * (rs.size : Int) % 18446744073709551616) % 18446744073709551616, ra, rb] ++ ws)[j]'(List.mem_range.1 hj) = y at hmem ⊢
    rcases List.mem_append.1 hmem with h9 | h9
    · simp only [List.mem_cons, List.not_mem_nil, or_false] at h9
      rcases h9 with rfl | rfl | rfl
      · unfold U64; omega
      · exact ha
      · exact hb
    · exact hws.2 _ h9
  have hJ := h.vsets hx
  have hP := pre_vsets img ((List.range ([(re + 256 * (rs.size : Int) % 18446744073709551616) % 18446744073709551616, ra, rb] ++ ws).length).map fun (j : Nat) => (slotAt i k + 1 + (0 + (j : Int)), ([(re + 256 * (rs.size : Int) % 18446744073709551616) % 18446744073709551616, ra, rb] ++ ws).getD j 0)) l
  generalize vsets img l _ = r at hJ hP ⊢
  refine Ok.ite (fun _ => ?_) (fun _ => Ok.some ⟨hJ, hP⟩)
  exact Ok.some ⟨hJ.vwrite hq, hP.trans (pre_vwrite _ _ _ _)⟩

/-- all that one list says, put into an elder one. -/
theorem put_all {m : List (Int × Int)} (hm : VOk img m) (hp : (l.map (·.1)) <+: (m.map (·.1))) {k : Nat} (hk : k < m.length) :
    vput img (m.take k ++ l.drop k) (m.getD k (0, 0)).1 (m.getD k (0, 0)).2 = (0, m.take (k + 1) ++ l.drop (k + 1)) := by
  have hkeys : (m.map (·.1)).Nodup := hm.keys
  have hlen : l.length ≤ m.length := by have := hp.length_le; simpa using this
  have he : m.getD k (0, 0) = m[k] := by simp [hk]
  rw [he]
  have hin := hm.inside m[k] (List.getElem_mem hk)
  have htk : m.take (k + 1) = m.take k ++ [m[k]] := by rw [List.take_add_one]; simp [hk]
  by_cases h : k < l.length
  · have hd : l.drop k = l[k] :: l.drop (k + 1) := List.drop_eq_getElem_cons h
    have hkey : l[k].1 = m[k].1 := by
      have := hp.getElem (i := k) (by simpa using h)
      simpa using this
    have hK : Keys (m.take k ++ l.drop k) := by
      unfold Keys
      obtain ⟨t, ht⟩ := hp
      have e : ((m.take k ++ l.drop k).map (·.1)) = l.map (·.1) := by
        rw [List.map_append, List.map_take, List.map_drop, ← ht, List.take_append_of_le_length (by simp; omega), List.take_append_drop]
      rw [e]
      rw [← ht] at hkeys
      exact (List.nodup_append.1 hkeys).1
    have hpos : ((m.take k ++ l.drop k).getD k (0, 0)) = l[k] := by
      rw [List.getD_eq_getElem?_getD, List.getElem?_append_right (by simp; omega)]
      rw [show k - (m.take k).length = 0 by simp; omega, hd]
      rfl
    have hlk : k < (m.take k ++ l.drop k).length := by simp; omega
    have hlook := vlook_at hK hlk
    rw [hpos, hkey] at hlook
    unfold vput
    rw [if_pos hin, hlook]
    simp only
    rw [← vset_set hK hlk (by rw [hpos]; exact hkey), htk, hd]
    rw [List.set_append_right _ _ (by simp; omega), show k - (m.take k).length = 0 by simp; omega, List.set_cons_zero, List.append_assoc]
    rfl
  · have hd : l.drop k = [] := List.drop_of_length_le (by omega)
    have hd2 : l.drop (k + 1) = [] := List.drop_of_length_le (by omega)
    rw [hd, hd2, List.append_nil, List.append_nil, htk]
    have hnone : vlook (m.take k) m[k].1 = none := by
      refine find_none fun j hj e => ?_
      have hj2 : j < k := by simp at hj; omega
      have e2 : (m.take k).getD j (0, 0) = m[j] := by simp [hj2, Nat.lt_trans hj2 hk]
      rw [e2] at e
      have hne := List.pairwise_iff_getElem.1 hkeys j k (by simp; omega) (by simpa using hk) hj2
      exact hne (by simpa using e)
    unfold vput
    have h96 := hm.many
    rw [if_pos hin, hnone]
    simp only
    rw [if_neg (by simp; omega), vset_none hnone]
theorem keep11_ok (h : VJ img l) (i : Int) {q re ra rb : Int} {rs : ByteArray} (hq : U64 q) (ha : U64 ra) (hb : U64 rb) :
    Ok (fun r => r.1 = r.2 ∧ VJ img r.1) (keep11_M img l l i q re ra rb rs) := by
  unfold keep11_M
  have hq' := hq
  unfold U64 at hq'
  have h4 := Int.tmod_eq_emod_of_nonneg (b := 4) hq.1
  refine Ok.need (by omega) ?_
  refine Ok.bind (rsave_ok h i (q.tmod 4) hq ha hb) fun r hr => ?_
  refine Ok.ite (fun _ => ?_) (fun _ => Ok.some ⟨rfl, h⟩)
  obtain ⟨e, m⟩ := r
  simp only at hr
  have hmany := hr.1.2.many
  refine Ok.iter (fun s => 0 ≤ s.2 ∧ s.2 ≤ (m.length : Int) ∧ s.1 = m.take s.2.toNat ++ l.drop s.2.toNat) (fun s => ((m.length : Int) - s.2).toNat) ?_ _ _ ⟨by simp, by simp, by simp⟩ (fuel_lt (by simp only; omega))
  rintro k ⟨m2, p⟩ ⟨h1, h2, h3⟩ ih
  simp only at h1 h2 h3 ih
  subst h3
  unfold keep11_B0
  simp only
  refine Ok.ite (fun hp => ?_) (fun hp => ?_)
  · refine Ok.need (by omega) (Ok.need (by omega) ?_)
    simp only [Option.bind]
    refine Ok.need (by omega) ?_
    rw [put_all hr.1.2 hr.2 (by omega)]
    exact ih _ ⟨by simp only; omega, by simp only; omega, by simp only; rw [show (p + 1).toNat = p.toNat + 1 by omega]⟩ (by simp only; omega)
  · have hlen : l.length ≤ m.length := by have := hr.2.length_le; simpa using this
    refine Ok.some ⟨?_, ?_⟩
    · rw [List.take_of_length_le (by omega), List.drop_of_length_le (by omega), List.append_nil]
    · rw [List.take_of_length_le (by omega), List.drop_of_length_le (by omega), List.append_nil]
      exact hr.1
end Go.Proofs.YthimamnblklkbaaDoor

/- Image: how many words it gives, and that each may be. -/
namespace Go.Proofs.YthimamnblklkbaaDoor
open Go Go.RowKit
set_option linter.unusedVariables false

theorem image_u64 {gw gi gb cut_ : Int} {ts : List TTn} (hc : 0 ≤ cut_ ∧ cut_ ≤ 65535) (ht : ∀ t ∈ ts, good_Tn t) (hl : ts.length ≤ 1000) :
    Ok (fun ws : List Int => ws.length ≤ 6232 ∧ (∀ x ∈ ws, U64 x) ∧ (cut_ = 0 → ws.length = (wordsOf gw gi gb).toNat)) (image_M gw gi gb ts cut_) := by
  have hw := words_le gw gi gb
  have hlen := fmtW_len gw gi gb
  have hfu : ∀ x ∈ fmtW gw gi gb, U64 x := fmtW_u64
  generalize hn : (fmtW gw gi gb).length = n at *
  have hn2 : n ≤ 6232 := by omega
  unfold image_M
  refine Ok.iter (fun s => s.1.length = n ∧ (∀ x ∈ s.1, U64 x) ∧ 0 ≤ s.2 ∧ s.2 ≤ (ts.length : Int)) (fun s => ((ts.length : Int) - s.2).toNat) ?_ _ _ ⟨hn, hfu, by omega, by omega⟩ (fuel_lt (by simp only; omega))
  rintro k ⟨q, p⟩ ⟨h1, hq, h2, h3⟩ ih
  simp only at h1 hq h2 h3 ih ⊢
  have fin : Ok (fun ws : List Int => ws.length ≤ 6232 ∧ (∀ x ∈ ws, U64 x) ∧ (cut_ = 0 → ws.length = (wordsOf gw gi gb).toNat)) (image_J1 gw gi gb cut_ q) := by
    unfold image_J1
    rw [hn]
    have hm : 0 ≤ mn cut_ n ∧ mn cut_ n ≤ n ∧ (cut_ = 0 → mn cut_ n = 0) := by unfold mn; split <;> omega
    refine Ok.need (by omega) (Ok.need (by omega) (Ok.need (by omega) (Ok.need (by omega) (Ok.some ⟨?_, fun x hx => hq x (List.mem_of_mem_take hx), ?_⟩))))
    · rw [List.length_take]; omega
    · intro h0; rw [List.length_take, hm.2.2 h0]; omega
  unfold image_B0
  rw [hn]
  refine Ok.ite (fun hp => ?_) (fun _ => fin)
  refine Ok.ite (fun hq0 => ?_) (fun _ => fin)
  have hpn : p.toNat < ts.length := by omega
  have hmem : ts.getD p.toNat dTn ∈ ts := by simp [List.getD, hpn]
  have hb := ht _ hmem
  have hb1 := hb.1
  have hb2 := hb.2
  have htm := Int.tmod_eq_emod_of_nonneg (b := (n : Int)) hb1.1
  have h5 := Int.emod_nonneg (ts.getD p.toNat dTn).c0 (b := (n : Int)) (by omega)
  have h6 := Int.emod_lt_of_pos (ts.getD p.toNat dTn).c0 (b := (n : Int)) (by omega)
  rw [htm]
  refine Ok.need (by omega) (Ok.need (by omega) (Ok.need (by omega) (Ok.need (by omega) (Ok.need (by omega) (Ok.need (by omega) (Ok.need (by omega) ?_))))))
  refine ih _ ⟨by rw [List.length_set]; exact h1, ?_, by omega, by omega⟩ (by omega)
  intro x hx
  rcases List.mem_or_eq_of_mem_set hx with h | h
  · exact hq x h
  · rw [h]; unfold U64; omega
end Go.Proofs.YthimamnblklkbaaDoor
