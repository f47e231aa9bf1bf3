/- AllocNil: the plain law. -/
import Derived.Test.YthimamnblklkbaaDoorALaNi
import Derived.Test.YthimamnblklkbaaDoorGG
namespace Go.Proofs.YthimamnblklkbaaDoor
open Go Go.RowKit
theorem allocnil_law : allocnil_M = some true := by
  unfold allocnil_M
  rw [works07_eq]
  rfl
end Go.Proofs.YthimamnblklkbaaDoor
