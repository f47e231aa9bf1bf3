/- The table that a row lists, as the walks ask it; a world that meets the listing. -/
import Derived.Test.YthimamnblklkbaaDoorTz
import Derived.Test.YthimamnblklkbaaDoorLp
import Derived.LaidMore
import Derived.OpenShut
import Derived.Stop.Joined
import Derived.Lib.LaidTab
namespace Go.Proofs.YthimamnblklkbaaDoor
open Go.ChangeShapes Go.WideShapes Go.ChangeAt Go.RowKit Go.Deep

theorem laid_tab {W : World} (h : laidMetH Tryd.prog Rows.bitmapNilRow.laid W) : CellsAt (some ⟨0, 0, none⟩) tab8 W := by
  rw [MakeChecks.laidMetH_plain _ _ _ (by kernel_rfl)] at h
  have hg : Tryd.prog.globalNamed "math/bits.deBruijn64tab" = some 0 := by kernel_rfl
  have ht : Lib.TabIs Tryd.prog W "math/bits.deBruijn64tab" .u8 (Lib.deBruijn64tab.map Int.ofNat) :=
    Lib.tabIs_of_head (rest := []) hg (by kernel_rfl) Tryd.underlying207 Tryd.underlying5 (by kernel_rfl) (by kernel_rfl) h
  intro j v hj
  unfold tab8 at hj
  rw [List.getElem?_map] at hj
  obtain ⟨z, hz, rfl⟩ := Option.map_eq_some_iff.1 hj
  have hlt : j < (Lib.deBruijn64tab.map Int.ofNat).length := by rw [List.length_map]; exact (List.getElem?_eq_some_iff.1 hz).1
  have hc := ht.cell hg j hlt
  rw [List.getD_eq_getElem?_getD, List.getElem?_map, hz] at hc
  have e : Addr.add ⟨0, 0, none⟩ j = ⟨0, j, none⟩ := by unfold Addr.add; split <;> simp_all
  rw [e]; simpa using hc

theorem door_met (os : Os) (args : Array Value) : laidMetH Tryd.prog Rows.bitmapNilRow.laid ((World.doorLaid Tryd.prog 400 os).forCall (fun _ _ => 0) ⟨#[], args, []⟩).memory :=
  laidMetH_of_parts3 (fuel := 8) (laidMet_of_run' 8 (by kernel_rfl) (by kernel_rfl)) (by kernel_rfl) (by kernel_rfl)
end Go.Proofs.YthimamnblklkbaaDoor
