/- Loops unrolled; results that lie in a cell. -/
import Derived.Test.YthimamnblklkbaaDoorSr
namespace Go.Proofs.YthimamnblklkbaaDoor
open Go Go.RowKit

section
variable {P : Program} {c : Code} {s : Fs} {w : World} {Q : Exit → Fs → World → Prop}

/-! ### results -/
def aggSize (P : Program) (t : TypeId) : Option Nat :=
  match P.underlying t, P.info? t with
  | some (.struct _), some f => some f.size
  | some (.array _ _), some f => some f.size
  | _, _ => none

theorem run_loadVar_agg {t : TypeId} {ad : Addr} {cs : List Value} (hz : aggSize P t = some cs.length) (hc : ∀ j v, cs[j]? = some v → w.cell? (ad.add j) = some v) : (loadVar t ad).run P w = .ok (.agg cs.toArray) w := by
  unfold aggSize at hz
  have key : ∀ (d : TypeDesc) (f : TypeInfo), P.underlying t = some d → P.info? t = some f → (match d with | .struct _ | .array _ _ => true | _ => false) = true → some f.size = some cs.length → (loadVar t ad).run P w = .ok (.agg cs.toArray) w := by
    intro d f hu hi hd he
    simp only [Option.some.injEq] at he
    have hag : (isAgg t).run P w = .ok true w := by
      unfold isAgg
      rw [Sem.run_bind, run_underlying hu]
      simp only [Result.andThen_ok]
      cases d <;> first | rfl | simp at hd
    have hsz : (sizeOf t).run P w = .ok f.size w := by
      simp [sizeOf, typeInfo, hi]
    have hl := run_loadCells_list (P := P) w ad cs hc
    rw [← he] at hl
    simp only [loadVar, Sem.run_bind, Result.andThen_ok, hag, hsz, if_true, hl, Sem.run_pure]
  split at hz
  · rename_i hu hi; exact key _ _ hu hi rfl hz
  · rename_i hu hi; exact key _ _ hu hi rfl hz
  · cases hz

theorem results_cell {fn : Func} {a : Nat} {t : TypeId} {ad : Addr} {cs : List Value} (hr : fn.results = #[.cell a t]) (ha0 : (s.d, s.f a) = ([], .pointer (some ad))) (hz : aggSize P t = some cs.length)
    (hc : ∀ j v, cs[j]? = some v → w.cell? (ad.add j) = some v) : (resS fn s).run P w = .ok (.agg cs.toArray) w := by
  have hl := run_loadVar_agg (P := P) (w := w) hz hc
  have ha' : s.f a = .pointer (some ad) := congrArg Prod.snd ha0
  have hd : s.d = [] := congrArg Prod.fst ha0
  unfold resS
  rw [hd]
  simp only
  unfold resD
  rw [hr]
  simp [resF, ha', asAddr, hl]
theorem results_cell2 {fn : Func} {a u : Nat} {t : TypeId} {ad : Addr} {cs : List Value} {v : Value} (hr : fn.results = #[.cell a t, .tmp u]) (ha0 : (s.d, s.f a) = ([], .pointer (some ad))) (hv : s.f u = v) (hz : aggSize P t = some cs.length)
    (hc : ∀ j v, cs[j]? = some v → w.cell? (ad.add j) = some v) : (resS fn s).run P w = .ok (.tuple #[.agg cs.toArray, v]) w := by
  have hl := run_loadVar_agg (P := P) (w := w) hz hc
  subst hv
  have ha' : s.f a = .pointer (some ad) := congrArg Prod.snd ha0
  have hd : s.d = [] := congrArg Prod.fst ha0
  unfold resS
  rw [hd]
  simp only
  unfold resD
  rw [hr]
  simp [resF, ha', asAddr, hl]
end
end Go.Proofs.YthimamnblklkbaaDoor
