/- Four words. -/
import Derived.Test.YthimamnblklkbaaDoorGC
import Derived.Test.YthimamnblklkbaaDoorGA
namespace Go.Proofs.YthimamnblklkbaaDoor
open Go Go.RowKit
set_option linter.unusedSimpArgs false
set_option linter.unusedVariables false

structure TA4 where
  c0 : Int
  c1 : Int
  c2 : Int
  c3 : Int

def dA4 : TA4 := (⟨0, 0, 0, 0⟩ : TA4)
def kA4 : Kind TA4 := ⟨101, 4, fun x => [.int .u64 x.c0, .int .u64 x.c1, .int .u64 x.c2, .int .u64 x.c3], by decide, fun _ => rfl, fun _ => rfl⟩
def good_A4 (x : TA4) : Prop := (0 ≤ x.c0 ∧ x.c0 ≤ 18446744073709551615) ∧ (0 ≤ x.c1 ∧ x.c1 ≤ 18446744073709551615) ∧ (0 ≤ x.c2 ∧ x.c2 ≤ 18446744073709551615) ∧ (0 ≤ x.c3 ∧ x.c3 ≤ 18446744073709551615)

end Go.Proofs.YthimamnblklkbaaDoor
