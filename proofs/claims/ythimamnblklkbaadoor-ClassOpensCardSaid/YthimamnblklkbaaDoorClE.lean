/- What is so of the whole program: that it looks at nothing. -/
import Derived.Test.YthimamnblklkbaaDoorCards
import Derived.Test.YthimamnblklkbaaDoorGC
namespace Go.Proofs.YthimamnblklkbaaDoor
open Go Go.RowKit
set_option linter.unusedSimpArgs false
set_option linter.unusedVariables false

set_option maxRecDepth 100000 in
theorem seat_looks : false = Tryd.prog.looks [] := by kernel_rfl
end Go.Proofs.YthimamnblklkbaaDoor
