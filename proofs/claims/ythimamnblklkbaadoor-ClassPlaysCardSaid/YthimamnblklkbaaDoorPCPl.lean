/- ClassPlays: its plain law. -/
import Derived.Test.YthimamnblklkbaaDoorGN
import Derived.Test.YthimamnblklkbaaDoorGM
import Derived.Test.YthimamnblklkbaaDoorALcPl
namespace Go.Proofs.YthimamnblklkbaaDoor
open Go Go.RowKit
set_option linter.unusedVariables false
set_option linter.unusedSimpArgs false

theorem great11_ok (ss : List TSt11) : Ok (fun b : Bool => b = false → ss.length ≤ 60) (great11_M ss) := by
  unfold great11_M
  refine Ok.ite (fun _ => Ok.some (by simp)) fun h => ?_
  refine Ok.iter (fun p => 0 ≤ p) (fun p => ((ss.length : Int) - p).toNat) ?_ _ _ (by omega) (fuel_lt (by omega))
  intro k p h1 ih
  unfold great11_B0
  refine Ok.ite (fun hp => ?_) (fun _ => Ok.some fun _ => by omega)
  refine Ok.need (by omega) (Ok.ite (fun _ => Ok.some (by simp)) fun _ => Ok.need (by omega) (ih _ (by omega) (by omega)))

theorem works11_end : Ok (· = true) ((works11_M).bind fun r => some r) := by
  rw [works11_eq]
  exact Ok.some rfl
theorem classplays_law {ts : List TTn} {cut_ : Int} {ss : List TSt11} (hc : 0 ≤ cut_ ∧ cut_ ≤ 65535) (ht : ∀ x ∈ ts, good_Tn x) (hs : ∀ x ∈ ss, good_St11 x) : classplays_M ts cut_ ss = some true := by
  refine Ok.true ?_
  unfold classplays_M
  refine Ok.ite (fun _ => works11_end) fun h40 => ?_
  refine Ok.bind (great11_ok ss) fun b hb => ?_
  refine Ok.ite (fun _ => works11_end) fun hb2 => ?_
  have h60 := hb (by simpa using hb2)
  refine Ok.need (by omega) (Ok.need (by omega) ?_)
  refine Ok.bind (image_u64 (gw := 1) (gi := 2 + 0 % 20) (gb := 2 + 0 % 60) hc ht (by omega)) fun ws hws => ?_
  refine Ok.need (by omega) (Ok.need (by omega) ?_)
  refine Ok.iter (fun s => s.1 = s.2.1 ∧ VJ ws s.1 ∧ 0 ≤ s.2.2) (fun s => ((ss.length : Int) - s.2.2).toNat) ?_ _ _ ⟨rfl, ⟨VR.nil hws.2.1, VOk.nil (by omega)⟩, by simp⟩ (fuel_lt (by simp only; omega))
  rintro k ⟨l, l', p⟩ ⟨h1, h2, h3⟩ ih
  simp only at h1 h2 h3 ih
  subst h1
  unfold classplays_B0
  simp only
  refine Ok.ite (fun hp => ?_) (fun _ => works11_end)
  have hg : good_St11 (ss.getD p.toNat dSt11) := by
    have hpn : p.toNat < ss.length := by omega
    have : ss.getD p.toNat dSt11 ∈ ss := by simp [List.getD, hpn]
    exact hs _ this
  refine Ok.need (by omega) ?_
  have J3 : ∀ m, VJ ws m → Ok (· = true) (classplays_J3 k p m m true) := by
    intro m hm
    unfold classplays_J3
    have := hm.2.many
    exact Ok.yes rfl (Ok.need (by omega) (Ok.yes rfl (Ok.need (by omega) (ih _ ⟨rfl, hm, by simp only; omega⟩ (by simp only; omega)))))
  have J2 : ∀ m, VJ ws m → Ok (· = true) (classplays_J2 ss ws k p m m) := by
    intro m hm
    unfold classplays_J2
    generalize ss.getD p.toNat dSt11 = x at hg
    obtain ⟨g0, g1, g2, g3, g4, g5, g6⟩ := hg
    have u2 : U64 x.c2 := by unfold U64; omega
    have u3 : U64 x.c3 := by unfold U64; omega
    have u5 : U64 x.c5 := by unfold U64; omega
    have u6 : U64 x.c6 := by unfold U64; omega
    refine Ok.ite (fun _ => ?_) fun _ => ?_
    · rw [cof_eq hm.1]
      obtain ⟨r, e, hr⟩ := rof_ok hm.1 x.c1 x.c2 u3
      rw [e]
      simp only [Option.bind]
      refine Ok.need (by omega) (Ok.yes trivial (Ok.yes (by simp) ?_))
      simp only [decide_true]
      exact J3 m hm
    refine Ok.ite (fun _ => ?_) fun _ => ?_
    · rw [cack_eq hm.1 x.c1 x.c2 u3.1]
      obtain ⟨r, e, hr⟩ := rack_ok hm x.c1 u2 u3
      rw [e]
      simp only [Option.bind]
      refine Ok.yes trivial ?_
      simp only [decide_true]
      exact J3 _ hr
    refine Ok.ite (fun _ => ?_) fun _ => ?_
    · rw [copen_eq hm.1 x.c1 x.c2]
      obtain ⟨r, e, hr⟩ := ropen_ok hm x.c1 u2
      rw [e]
      simp only [Option.bind]
      refine Ok.need (by omega) (Ok.yes trivial ?_)
      simp only [decide_true]
      exact J3 _ hr.2
    refine Ok.ite (fun _ => ?_) fun _ => ?_
    · rw [cclose_eq hm.1 x.c1 x.c2]
      obtain ⟨r, e, hr⟩ := rclose_ok hm x.c1 u2
      rw [e]
      simp only [Option.bind]
      refine Ok.need (by omega) (Ok.yes trivial ?_)
      simp only [decide_true]
      exact J3 _ hr.2
    · obtain ⟨⟨a, b⟩, e, hr⟩ := keep11_ok (i := x.c1) (re := x.c4) (rs := x.c7) hm u3 u5 u6
      rw [e]
      simp only at hr
      obtain ⟨rfl, hr⟩ := hr
      exact J3 _ hr
  exact Ok.ite (fun _ => J2 [] ⟨VR.nil hws.2.1, VOk.nil (by omega)⟩) fun _ => J2 l h2
end Go.Proofs.YthimamnblklkbaaDoor
