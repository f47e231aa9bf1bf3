/- What is so of the whole program: that it may be entered. -/
import Derived.Test.YthimamnblklkbaaDoorChecked
import Derived.Test.YthimamnblklkbaaDoorRows
namespace Go.Proofs.YthimamnblklkbaaDoor
open Go
set_option maxRecDepth 100000 in
theorem seat_enter : Tryd.prog.mayEnter = true := by kernel_rfl
end Go.Proofs.YthimamnblklkbaaDoor
