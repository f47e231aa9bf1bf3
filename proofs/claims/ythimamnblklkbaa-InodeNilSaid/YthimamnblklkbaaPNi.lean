/- InodeNil's plain law. -/
import Derived.Test.YthimamnblklkbaaANi
namespace Go.Proofs.Ythimamnblklkbaa
open Go Go.RowKit
theorem inodenil_law : inodenil_M = some true := rfl
end Go.Proofs.Ythimamnblklkbaa
