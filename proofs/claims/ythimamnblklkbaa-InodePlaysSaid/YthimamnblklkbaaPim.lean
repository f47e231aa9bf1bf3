/- Image: how many words it gives. -/
import Derived.Test.YthimamnblklkbaaAIm
namespace Go.Proofs.Ythimamnblklkbaa
open Go Go.RowKit
set_option linter.unusedVariables false

theorem image_ok {gw gi gb cut_ : Int} {ts : List TTn} (hc : 0 ≤ cut_ ∧ cut_ ≤ 65535) (ht : ∀ t ∈ ts, 0 ≤ t.c0 ∧ t.c0 ≤ 65535) (hl : ts.length ≤ 1000) :
    Ok (fun ws : List Int => ws.length ≤ 6232 ∧ (cut_ = 0 → ws.length = (wordsOf gw gi gb).toNat)) (image_M gw gi gb ts cut_) := by
  have hw := words_le gw gi gb
  have hlen := fmtW_len gw gi gb
  generalize hn : (fmtW gw gi gb).length = n at *
  have hn2 : n ≤ 6232 := by omega
  unfold image_M
  refine Ok.iter (fun s => s.1.length = n ∧ 0 ≤ s.2 ∧ s.2 ≤ (ts.length : Int)) (fun s => ((ts.length : Int) - s.2).toNat) ?_ _ _ ⟨hn, by omega, by omega⟩ (fuel_lt (by simp only; omega))
  rintro k ⟨q, p⟩ ⟨h1, h2, h3⟩ ih
  simp only at h1 h2 h3 ih ⊢
  have fin : Ok (fun ws : List Int => ws.length ≤ 6232 ∧ (cut_ = 0 → ws.length = (wordsOf gw gi gb).toNat)) (image_J1 gw gi gb cut_ q) := by
    unfold image_J1
    rw [hn]
    have hm : 0 ≤ mn cut_ n ∧ mn cut_ n ≤ n ∧ (cut_ = 0 → mn cut_ n = 0) := by unfold mn; split <;> omega
    refine Ok.need (by omega) (Ok.need (by omega) (Ok.need (by omega) (Ok.need (by omega) (Ok.some ⟨?_, ?_⟩))))
    · rw [List.length_take]; omega
    · intro h0; rw [List.length_take, hm.2.2 h0]; omega
  unfold image_B0
  rw [hn]
  refine Ok.ite (fun hp => ?_) (fun _ => fin)
  refine Ok.ite (fun hq => ?_) (fun _ => fin)
  have hpn : p.toNat < ts.length := by omega
  have hmem : ts.getD p.toNat dTn ∈ ts := by simp [List.getD, hpn]
  have hb := ht _ hmem
  have htm := Int.tmod_eq_emod_of_nonneg (b := (n : Int)) hb.1
  have h5 := Int.emod_nonneg (ts.getD p.toNat dTn).c0 (b := (n : Int)) (by omega)
  have h6 := Int.emod_lt_of_pos (ts.getD p.toNat dTn).c0 (b := (n : Int)) (by omega)
  rw [htm]
  refine Ok.need (by omega) (Ok.need (by omega) (Ok.need (by omega) (Ok.need (by omega) (Ok.need (by omega) (Ok.need (by omega) (Ok.need (by omega) ?_))))))
  exact ih _ ⟨by rw [List.length_set]; exact h1, by omega, by omega⟩ (by omega)
end Go.Proofs.Ythimamnblklkbaa
