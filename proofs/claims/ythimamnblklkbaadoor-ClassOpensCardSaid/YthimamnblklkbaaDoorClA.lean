/- What is so of the whole program: how it was made. -/
import Derived.Test.YthimamnblklkbaaDoorChecked
import Derived.Test.YthimamnblklkbaaDoorRows
namespace Go.Proofs.YthimamnblklkbaaDoor
open Go
set_option maxRecDepth 100000 in
theorem seat_make : (Tryd.prog.make == some Rows.bitmapNilRow.make) = true := by kernel_rfl
end Go.Proofs.YthimamnblklkbaaDoor
