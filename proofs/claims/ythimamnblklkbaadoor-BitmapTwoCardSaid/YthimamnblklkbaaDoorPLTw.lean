/- BitmapTwo: the plain law. -/
import Derived.Test.YthimamnblklkbaaDoorALTw
import Derived.Test.YthimamnblklkbaaDoorGD
namespace Go.Proofs.YthimamnblklkbaaDoor
open Go Go.RowKit
set_option linter.unusedVariables false

theorem bitmaptwo_law {ls : List Int} {short : Int} (hl : ∀ x ∈ ls, good_u16 x) (hs : 0 ≤ short ∧ short ≤ 255) : bitmaptwo_M ls short = some true := by
  refine Ok.true ?_
  obtain ⟨ws, hws⟩ : ∃ ws : List Int, ws = List.replicate 4 0 := ⟨_, rfl⟩
  have hwl : ws.length = 4 := by rw [hws]; rfl
  have hw' : ∀ x ∈ ws, U64 x := fun x hx => by rw [hws] at hx; have := List.eq_of_mem_replicate hx; subst this; exact u64_zero
  unfold bitmaptwo_M
  have hwk : Ok (· = true) (works06_M.bind fun r => some r) := Ok.bind (S := (· = true)) ⟨_, works06_eq, rfl⟩ fun y hy => ⟨y, rfl, hy⟩
  rw [Int.tmod_eq_emod_of_nonneg hs.1, show (List.replicate 4 (0 : Nat)).length = 4 from rfl]
  refine Ok.ite (fun _ => hwk) fun h100 => Ok.need (by omega) (Ok.need (by omega) (Ok.need (by omega) (Ok.need (by omega) (Ok.need (by omega) (Ok.need (by omega) (Ok.need (by omega) (Ok.need (by omega) (Ok.need (by omega) ?_))))))))
  have hok0 : VOk ws [] := VOk.nil (by omega)
  have hv0 := VR.nil hw'
  have hb0 : ∀ l j, mbits ws l 0 j = gb ws l j := fun l j => by have := mbits_gb (img := ws) (l := l) (a := 0) j; simpa using this
  have hb2 : ∀ l j, mbits ws l 2 j = gb ws l (128 + j) := fun l j => mbits_gb (img := ws) (l := l) (a := 2) j
  have bits0 : ∀ l, vget ws l 2 = 0 → vget ws l 3 = 0 → ∀ j, j < 128 → mbits ws l 2 j = false := by
    intro l h2 h3 j hj
    rw [hb2]
    unfold gb
    have : (128 + j) / 64 = 2 ∨ (128 + j) / 64 = 3 := by omega
    rcases this with e | e <;> rw [e]
    · rw [show ((2 : Nat) : Int) = 2 from rfl, h2, bitI_zero]
    · rw [show ((3 : Nat) : Int) = 3 from rfl, h3, bitI_zero]
  refine Ok.iter (fun s : List (Int × Int) × Int => VOk ws s.1 ∧ VR ws s.1 ∧ vget ws s.1 2 = 0 ∧ vget ws s.1 3 = 0 ∧ 0 ≤ s.2 ∧ s.2 ≤ (ls.length : Int)) (fun s => ((ls.length : Int) - s.2).toNat) ?_ _ _ ⟨hok0, hv0, by rw [hws]; rfl, by rw [hws]; rfl, by simp, by simp⟩ (fuel_lt (by simp only; omega))
  rintro k ⟨l, p⟩ ⟨hok, hv, g2, g3, h1, h2⟩ ih
  simp only at hok hv g2 g3 h1 h2 ih
  unfold bitmaptwo_B0
  simp only
  rw [← hws, Int.tmod_eq_emod_of_nonneg hs.1]
  have hlen := hok.len
  refine Ok.ite (fun hp => ?_) fun hp => ?_
  · have hmem : ls.getD p.toNat 0 ∈ ls := by
      have : p.toNat < ls.length := by omega
      simp [List.getD, this]
    have hx := hl _ hmem
    unfold good_u16 at hx
    generalize ls.getD p.toNat 0 = x at hx
    rw [Int.tmod_eq_emod_of_nonneg hx.1]
    refine Ok.need (by omega) (Ok.need (by omega) (Ok.name fun r hr => Ok.need (by omega) ?_))
    obtain ⟨l', hl', hv', hok', _, _, hget, hbit⟩ := mset_in (is_ := decide (x.tmod 3 > 0)) (at_ := 0) (i_ := r) (many := 128) hv hok (by omega) (by omega) (by omega)
    refine Ok.bind (S := (· = _)) ⟨_, (mset_ok hv (by omega) (by omega)).trans (congrArg some hl'), rfl⟩ fun q hq => ?_
    subst hq
    have e2 : vget ws l' 2 = 0 := by rw [hget, if_neg (by omega)]; exact g2
    have e3 : vget ws l' 3 = 0 := by rw [hget, if_neg (by omega)]; exact g3
    refine Ok.yes rfl ?_
    refine Ok.bind (S := (· = _)) ⟨_, mget_ok hv' (by omega) (by omega), rfl⟩ fun a ha => ?_
    have hnext : Ok (· = true) ((mcount_M ws l' 2 128).bind fun r192 => if r192 = 0 then (need (-9223372036854775808 ≤ (p + 1) ∧ (p + 1) ≤ 9223372036854775807) <| k (l', (p + 1))) else (some false)) := by
      refine Ok.bind (S := (· = _)) ⟨_, mcount_ok hv' (by omega) (by omega), rfl⟩ fun c hc => ?_
      have hc0 : c = 0 := by rw [hc, cnt_none]; · rfl
                             · exact fun j hj => bits0 l' e2 e3 j (by omega)
      exact Ok.yes hc0 (Ok.need (by omega) (ih _ ⟨hok', hv', e2, e3, by simp only; omega, by simp only; omega⟩ (by simp only; omega)))
    refine Ok.ite (fun hlt => ?_) fun hge => ?_
    · refine Ok.bind (S := (· = _)) ⟨_, mget_ok hv' (by omega) (by omega), rfl⟩ fun b hb => ?_
      rw [decide_eq_true (by omega), Bool.true_and] at ha hb
      exact Ok.yes (by rw [ha, hb]) hnext
    · rw [decide_eq_false (by omega), Bool.false_and] at ha
      exact Ok.yes (by rw [ha]; simp) hnext
  · unfold bitmaptwo_J1
    rw [← hws, Int.tmod_eq_emod_of_nonneg hs.1]
    refine Ok.bind (S := (· = _)) ⟨_, mclear_ok hv (by omega) (by omega), rfl⟩ fun a ha => ?_
    refine Ok.bind (S := (· = _)) ⟨_, mclear_ok hv (by omega) (by omega), rfl⟩ fun b hb => ?_
    refine Ok.bind (S := (· = _)) ⟨_, mclear_ok hv (by omega) (by omega), rfl⟩ fun c hc => ?_
    rw [lst_at (i := 0) (by omega) (bits0 l g2 g3 0 (by omega)) (fun j hj => by omega)] at ha
    subst ha
    refine Ok.yes rfl (Ok.yes rfl ?_)
    rw [g2, g3]
    have hend : Ok (· = true) (if (0 : Int) = 0 then (if (0 : Int) = 0 then ((works06_M).bind fun r83 => some r83) else (some false)) else (some false)) := Ok.yes rfl (Ok.yes rfl hwk)
    have e128 : (128 : Int).toNat = 128 := rfl
    rw [e128] at hc
    rcases lst_cases (mbits ws l 0) 128 with ⟨i, i1, i2, i3, i4⟩ | ⟨i1, i4⟩
    · rw [i4] at hc
      subst hc
      refine Ok.yes rfl ?_
      by_cases hi : (i : Int) < 1 + short % 128
      · rw [lst_at (i := i) (by omega) i2 i3] at hb
        subst hb
        exact Ok.yes ⟨fun _ => hi, fun _ => rfl⟩ (Ok.yes rfl (Ok.yes rfl hend))
      · rw [lst_full fun j hj => i3 j (by omega)] at hb
        subst hb
        exact Ok.yes ⟨fun h => (by cases h), fun h => absurd h hi⟩ (Ok.no (by decide) hend)
    · rw [i4] at hc
      subst hc
      rw [lst_full fun j hj => i1 j (by omega)] at hb
      subst hb
      exact Ok.no (by decide) (Ok.yes (by simp) (Ok.no (by decide) hend))
end Go.Proofs.YthimamnblklkbaaDoor
