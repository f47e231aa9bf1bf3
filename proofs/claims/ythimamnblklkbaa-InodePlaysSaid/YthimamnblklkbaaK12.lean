/- Kinds of layer 12, by a program. -/
import Derived.Test.YthimamnblklkbaaF6k
import Derived.Test.YthimamnblklkbaaAu
namespace Go.Proofs.Ythimamnblklkbaa
open Go Go.RowKit
set_option linter.unusedSimpArgs false
set_option linter.unusedVariables false

structure TTn where
  c0 : Int
  c1 : Int

def dTn : TTn := (⟨0, 0⟩ : TTn)
def kTn : Kind TTn := ⟨107, 2, fun x => [.int .u16 x.c0, .int .u64 x.c1], by decide, fun _ => rfl, fun _ => rfl⟩
def good_Tn (x : TTn) : Prop := (0 ≤ x.c0 ∧ x.c0 ≤ 65535) ∧ (0 ≤ x.c1 ∧ x.c1 ≤ 18446744073709551615)

structure TSt12 where
  c0 : Int
  c1 : Int
  c2 : Int
  c3 : Int
  c4 : Int
  c5 : Int
  c6 : Int
  c7 : Int
  c8 : Int
  c9 : Int
  c10 : Int
  c11 : Int
  c12 : Bool

def dSt12 : TSt12 := (⟨0, 0, 0, 0, 0, 0, 0, 0, 0, 0, 0, 0, false⟩ : TSt12)
def kSt12 : Kind TSt12 := ⟨74, 13, fun x => [.int .u8 x.c0, .int .i64 x.c1, .int .u64 x.c2, .int .u64 x.c3, .int .u64 x.c4, .int .u64 x.c5, .int .u64 x.c6, .int .u64 x.c7, .int .u64 x.c8, .int .u64 x.c9, .int .u64 x.c10, .int .u64 x.c11, .bool x.c12], by decide, fun _ => rfl, fun _ => rfl⟩
def good_St12 (x : TSt12) : Prop := (0 ≤ x.c0 ∧ x.c0 ≤ 255) ∧ (-9223372036854775808 ≤ x.c1 ∧ x.c1 ≤ 9223372036854775807) ∧ (0 ≤ x.c2 ∧ x.c2 ≤ 18446744073709551615) ∧ (0 ≤ x.c3 ∧ x.c3 ≤ 18446744073709551615) ∧ (0 ≤ x.c4 ∧ x.c4 ≤ 18446744073709551615) ∧ (0 ≤ x.c5 ∧ x.c5 ≤ 18446744073709551615) ∧ (0 ≤ x.c6 ∧ x.c6 ≤ 18446744073709551615) ∧ (0 ≤ x.c7 ∧ x.c7 ≤ 18446744073709551615) ∧ (0 ≤ x.c8 ∧ x.c8 ≤ 18446744073709551615) ∧ (0 ≤ x.c9 ∧ x.c9 ≤ 18446744073709551615) ∧ (0 ≤ x.c10 ∧ x.c10 ≤ 18446744073709551615) ∧ (0 ≤ x.c11 ∧ x.c11 ≤ 18446744073709551615)

structure TGeo where
  c0 : Int
  c1 : Int
  c2 : Int

def dGeo : TGeo := (⟨0, 0, 0⟩ : TGeo)
def kGeo : Kind TGeo := ⟨56, 3, fun x => [.int .i64 x.c0, .int .i64 x.c1, .int .i64 x.c2], by decide, fun _ => rfl, fun _ => rfl⟩
def good_Geo (x : TGeo) : Prop := (-9223372036854775808 ≤ x.c0 ∧ x.c0 ≤ 9223372036854775807) ∧ (-9223372036854775808 ≤ x.c1 ∧ x.c1 ≤ 9223372036854775807) ∧ (-9223372036854775808 ≤ x.c2 ∧ x.c2 ≤ 9223372036854775807)

structure TNd12 where
  c0 : Int
  c1 : Int
  c2 : Int
  c3 : Int
  c4 : Int
  c5 : Int
  c6 : Int
  c7 : Int
  c8 : Int
  c9 : Int

def dNd12 : TNd12 := (⟨0, 0, 0, 0, 0, 0, 0, 0, 0, 0⟩ : TNd12)
def kNd12 : Kind TNd12 := ⟨54, 10, fun x => [.int .u64 x.c0, .int .u64 x.c1, .int .u64 x.c2, .int .u64 x.c3, .int .u64 x.c4, .int .u64 x.c5, .int .u64 x.c6, .int .u64 x.c7, .int .u64 x.c8, .int .u64 x.c9], by decide, fun _ => rfl, fun _ => rfl⟩
def good_Nd12 (x : TNd12) : Prop := (0 ≤ x.c0 ∧ x.c0 ≤ 18446744073709551615) ∧ (0 ≤ x.c1 ∧ x.c1 ≤ 18446744073709551615) ∧ (0 ≤ x.c2 ∧ x.c2 ≤ 18446744073709551615) ∧ (0 ≤ x.c3 ∧ x.c3 ≤ 18446744073709551615) ∧ (0 ≤ x.c4 ∧ x.c4 ≤ 18446744073709551615) ∧ (0 ≤ x.c5 ∧ x.c5 ≤ 18446744073709551615) ∧ (0 ≤ x.c6 ∧ x.c6 ≤ 18446744073709551615) ∧ (0 ≤ x.c7 ∧ x.c7 ≤ 18446744073709551615) ∧ (0 ≤ x.c8 ∧ x.c8 ≤ 18446744073709551615) ∧ (0 ≤ x.c9 ∧ x.c9 ≤ 18446744073709551615)

end Go.Proofs.Ythimamnblklkbaa
