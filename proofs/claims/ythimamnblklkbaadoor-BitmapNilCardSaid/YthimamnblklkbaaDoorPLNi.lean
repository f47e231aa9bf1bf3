/- BitmapNil: the plain law. -/
import Derived.Test.YthimamnblklkbaaDoorALNi
import Derived.Test.YthimamnblklkbaaDoorP6w
namespace Go.Proofs.YthimamnblklkbaaDoor
open Go Go.RowKit
theorem bitmapnil_law : bitmapnil_M = some true := by
  unfold bitmapnil_M
  rw [mclear0_eq, mcount0_eq, works06_eq]
  rfl
end Go.Proofs.YthimamnblklkbaaDoor
