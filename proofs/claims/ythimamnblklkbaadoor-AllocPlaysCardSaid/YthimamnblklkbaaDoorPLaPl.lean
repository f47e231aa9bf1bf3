/- AllocPlays: the plain law. -/
import Derived.Test.YthimamnblklkbaaDoorALaPl
import Derived.Test.YthimamnblklkbaaDoorGG
import Derived.Test.YthimamnblklkbaaDoorGH
import Derived.Test.YthimamnblklkbaaDoorGF
namespace Go.Proofs.YthimamnblklkbaaDoor
open Go Go.RowKit
set_option linter.unusedVariables false

theorem allocplays_law {gw gi gb cut_ : Int} {ts : List TTn7} {ss : List TSt7} (ht : ∀ t ∈ ts, good_Tn7 t) (hc : 0 ≤ cut_ ∧ cut_ ≤ 65535) (hs : ∀ t ∈ ss, good_St7 t) : allocplays_M gw gi gb ts cut_ ss = some true := by
  refine Ok.true ?_
  have hw := words_le gw gi gb
  have hlen := fmtW_len gw gi gb
  have hwk : Ok (· = true) (works07_M.bind fun r => some r) := Ok.bind (S := (· = true)) ⟨_, works07_eq, rfl⟩ fun y hy => ⟨y, rfl, hy⟩
  unfold allocplays_M
  refine Ok.ite (fun _ => hwk) fun ht20 => Ok.ite (fun _ => hwk) fun hs200 => ?_
  obtain ⟨n, hn⟩ : ∃ n, n = (fmtW gw gi gb).length := ⟨_, rfl⟩
  have hn2 : n ≤ 6232 := by omega
  have jx : ∀ q : List Int, q.length = n → (∀ x ∈ q, U64 x) → Ok (· = true) (allocplays_J1 gw gi gb cut_ ss q) := by
    intro q hq hqu
    unfold allocplays_J1
    rw [← hn]
    have hm : 0 ≤ mn cut_ n ∧ mn cut_ n ≤ n := by unfold mn; split <;> omega
    refine Ok.need (by omega) (Ok.need (by omega) (Ok.need (by omega) (Ok.need (by omega) ?_)))
    obtain ⟨img, himg⟩ : ∃ img, img = q.take ((n : Int) - mn cut_ n).toNat := ⟨_, rfl⟩
    have hil : img.length ≤ 6232 := by rw [himg, List.length_take]; omega
    have hiu : ∀ x ∈ img, U64 x := fun x hx => hqu x (by rw [himg] at hx; exact List.mem_of_mem_take hx)
    rw [← himg]
    refine Ok.need (by omega) (Ok.need (by omega) (Ok.need (by omega) ?_))
    refine Ok.ite (fun hP => Ok.need (by omega) (Ok.yes hP ?_)) fun hN => ?_
    · have hM := hP.1
      have hM_ := may_out hM
      have hp6 := place6 hM
      have hp7 := place7 hM
      refine Ok.iter (fun s : List (Int × Int) × List (Int × Int) × Int => s.1 = s.2.1 ∧ VI img s.1 ∧ 0 ≤ s.2.2 ∧ s.2.2 ≤ (ss.length : Int)) (fun s => ((ss.length : Int) - s.2.2).toNat) ?_ _ _ ⟨rfl, VI.nil hiu, by simp, by simp⟩ (fuel_lt (by simp only; omega))
      rintro k ⟨l, l', p⟩ ⟨h1, h2, h3, h4⟩ ih
      simp only at h1 h2 h3 h4 ih
      subst h1
      have j5 : ∀ (m : List (Int × Int)) (b : Bool), VI img m → b = true → p < ss.length → Ok (· = true) (allocplays_J5 gw gi gb cut_ q k p m m b) := by
        intro m b hV hb hp
        subst hb
        unfold allocplays_J5
        rw [← hn, ← himg]
        refine Ok.bind (S := (· = _)) ⟨_, afree_ok hV.1 (by omega) (by omega) (by omega) (by omega), rfl⟩ fun x hx => ?_
        refine Ok.bind (S := (· = _)) ⟨_, rfree_ok hV.1 (by omega) (by omega) (by omega) (by omega), rfl⟩ fun y hy => ?_
        obtain rfl : x = y := hx.trans hy.symm
        exact Ok.yes rfl (Ok.yes rfl (Ok.yes rfl (Ok.need (by omega) (ih _ ⟨rfl, hV, by simp only; omega, by simp only; omega⟩ (by simp only; omega)))))
      have j4 : ∀ m : List (Int × Int), VI img m → p < ss.length → Ok (· = true) (allocplays_J4 gw gi gb cut_ ss q k p m m) := by
        intro m hV hp
        unfold allocplays_J4
        rw [← hn, ← himg]
        refine Ok.ite (fun _ => ?_) fun _ => Ok.ite (fun _ => ?_) fun _ => Ok.ite (fun _ => ?_) fun _ => Ok.ite (fun _ => ?_) fun _ => ?_
        · refine Ok.bind (S := (· = _)) ⟨_, atakei_ok hV.1 (by omega) (by omega), rfl⟩ fun x hx => ?_
          refine Ok.bind (S := (· = _)) ⟨_, rtakei_ok hV.1 (by omega) (by omega), rfl⟩ fun y hy => ?_
          obtain rfl : x = y := hx.trans hy.symm
          exact Ok.yes rfl (j5 _ _ (by rw [hx]; exact hV.takeI) (by simp) hp)
        · refine Ok.bind (S := (· = _)) ⟨_, atakeb_ok hV.1 (by omega) (by omega), rfl⟩ fun x hx => ?_
          refine Ok.bind (S := (· = _)) ⟨_, rtakeb_ok hV.1 (by omega) (by omega), rfl⟩ fun y hy => ?_
          obtain rfl : x = y := hx.trans hy.symm
          exact Ok.yes rfl (j5 _ _ (by rw [hx]; exact hV.takeB) (by simp) hp)
        · unfold agivei_M rgivei_M
          refine Ok.bind (S := (· = _)) ⟨_, bind_of (agive_ok hV.1 (by omega) (by omega)) rfl, rfl⟩ fun x hx => ?_
          refine Ok.bind (S := (· = _)) ⟨_, bind_of (rgive_ok hV.1 (by omega) (by omega)) rfl, rfl⟩ fun y hy => ?_
          obtain rfl : x = y := hx.trans hy.symm
          exact j5 _ _ (by rw [hx]; exact hV.give) (by simp) hp
        · unfold agiveb_M rgiveb_M
          refine Ok.bind (S := (· = _)) ⟨_, bind_of (agive_ok hV.1 (by omega) (by omega)) rfl, rfl⟩ fun x hx => ?_
          refine Ok.bind (S := (· = _)) ⟨_, bind_of (rgive_ok hV.1 (by omega) (by omega)) rfl, rfl⟩ fun y hy => ?_
          obtain rfl : x = y := hx.trans hy.symm
          exact j5 _ _ (by rw [hx]; exact hV.give) (by simp) hp
        · unfold aused_M rused_M
          refine Ok.bind (S := (· = _)) ⟨_, bind_of (mget_ok hV.1 (by omega) (by omega)) rfl, rfl⟩ fun x hx => ?_
          refine Ok.bind (S := (· = _)) ⟨_, bind_of (rmget_ok hV.1 (by omega) (by omega)) rfl, rfl⟩ fun y hy => ?_
          obtain rfl : x = y := hx.trans hy.symm
          exact j5 _ _ hV (by simp) hp
      unfold allocplays_B1
      refine Ok.ite (fun hp => Ok.need ⟨h3, hp⟩ (Ok.ite (fun _ => j4 _ (VI.nil hiu) hp) fun _ => j4 _ h2 hp)) fun hp => ?_
      unfold allocplays_J2
      dsimp only
      rw [← hn, ← himg]
      have hvl := vflat_length img l
      have := h2.2
      exact Ok.need (by omega) (Ok.yes rfl (Ok.need (by omega) (Ok.yes rfl hwk)))
    · refine Ok.name fun a hA => Ok.need (by omega) (Ok.no hN (Ok.name fun b hB => ?_))
      exact Ok.yes (hA.trans hB.symm) hwk
  refine Ok.iter (fun s => s.1.length = n ∧ (∀ x ∈ s.1, U64 x) ∧ 0 ≤ s.2 ∧ s.2 ≤ (ts.length : Int)) (fun s => ((ts.length : Int) - s.2).toNat) ?_ _ _ ⟨hn.symm, fmtW_u64, by omega, by omega⟩ (fuel_lt (by simp only; omega))
  rintro k ⟨q, p⟩ ⟨h1, hq, h2, h3⟩ ih
  simp only at h1 h2 h3 hq ih ⊢
  unfold allocplays_B0
  rw [← hn]
  refine Ok.ite (fun hp => ?_) (fun _ => jx q h1 hq)
  refine Ok.ite (fun hz => ?_) (fun _ => jx q h1 hq)
  have hpn : p.toNat < ts.length := by omega
  have hmem : ts.getD p.toNat dTn7 ∈ ts := by simp [List.getD, hpn]
  have hb := ht _ hmem
  unfold good_Tn7 at hb
  have htm := Int.tmod_eq_emod_of_nonneg (b := (n : Int)) hb.1.1
  have h5 := Int.emod_nonneg (ts.getD p.toNat dTn7).c0 (b := (n : Int)) (by omega)
  have h6 := Int.emod_lt_of_pos (ts.getD p.toNat dTn7).c0 (b := (n : Int)) (by omega)
  rw [htm]
  refine Ok.need (by omega) (Ok.need (by omega) (Ok.need (by omega) (Ok.need (by omega) (Ok.need (by omega) (Ok.need (by omega) (Ok.need (by omega) ?_))))))
  refine ih _ ⟨by rw [List.length_set]; exact h1, fun x hx => ?_, by omega, by omega⟩ (by omega)
  rcases List.mem_or_eq_of_mem_set hx with h | rfl
  · exact hq x h
  · unfold U64; omega
end Go.Proofs.YthimamnblklkbaaDoor
