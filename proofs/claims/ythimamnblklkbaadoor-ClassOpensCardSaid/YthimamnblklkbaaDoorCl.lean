/- The facts of the whole program, together. -/
import Derived.Test.YthimamnblklkbaaDoorClA
import Derived.Test.YthimamnblklkbaaDoorClB
import Derived.Test.YthimamnblklkbaaDoorClC
import Derived.Test.YthimamnblklkbaaDoorClD
import Derived.Test.YthimamnblklkbaaDoorClE
import Derived.JoinedOf
namespace Go.Proofs.YthimamnblklkbaaDoor
open Go
theorem bool_and3 {a b c : Bool} (ha : a = true) (hb : b = true) (hc : c = true) : (a && b && c) = true := by rw [ha, hb, hc]; rfl
end Go.Proofs.YthimamnblklkbaaDoor
