/- What is so of the whole program: what is lifted. -/
import Derived.Test.YthimamnblklkbaaDoorChecked
import Derived.Test.YthimamnblklkbaaDoorRows
namespace Go.Proofs.YthimamnblklkbaaDoor
open Go
set_option maxRecDepth 100000 in
theorem seat_lifted : (Rows.bitmapNilRow.lifted == Tryd.prog.liftsFinal) = true := by kernel_rfl
end Go.Proofs.YthimamnblklkbaaDoor
