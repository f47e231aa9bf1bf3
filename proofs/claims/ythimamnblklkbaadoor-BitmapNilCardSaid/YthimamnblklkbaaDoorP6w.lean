/- The example of layer 6, computed. -/
import Derived.Test.YthimamnblklkbaaDoorA6w
namespace Go.Proofs.YthimamnblklkbaaDoor
open Go Go.RowKit
theorem works06_eq : works06_M = some true := by decide +kernel
theorem mcount0_eq : mcount0_M = some 0 := by decide +kernel
theorem mclear0_eq : mclear0_M = some (0, false) := by decide +kernel
end Go.Proofs.YthimamnblklkbaaDoor
