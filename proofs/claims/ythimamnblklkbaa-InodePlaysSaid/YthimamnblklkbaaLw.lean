/- What the laws use: a slice of an argument as a chunk that is read. -/
import Derived.Test.YthimamnblklkbaaF5g
import Derived.Test.YthimamnblklkbaaSr
namespace Go.Proofs.Ythimamnblklkbaa
open Go Go.RowKit

theorem St.addLowB {α : Type} (K : Kind α) {B : Nat} {w0 w : World} {H : List Asn} {a : Option Addr} {l : List α} (hB : w0.heap.size = B) (hs : St B w0 [] w H) (h : CellsAt a (K.cells l) w0) : St B w0 [] w (K.low a l :: H) := by
  subst hB; exact St.addLow K hs h
def kStep5 : Kind (Int × Int × Int) := ⟨35, 3, fun p => [.int .u8 p.1, .int .i64 p.2.1, .int .u64 p.2.2], by decide, fun _ => rfl, fun _ => rfl⟩
theorem vapply_length (ws : List Int) (l : List (Int × Int)) : (vapply ws l).2.length = ws.length := by
  unfold vapply; split <;> simp [vflat_length]
set_option linter.unusedSimpArgs false
end Go.Proofs.Ythimamnblklkbaa
