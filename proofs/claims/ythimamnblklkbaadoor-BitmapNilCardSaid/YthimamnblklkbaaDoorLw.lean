/- What the laws use: a slice of an argument as a chunk that is read. -/
import Derived.Test.YthimamnblklkbaaDoorF5g
import Derived.Test.YthimamnblklkbaaDoorSr
namespace Go.Proofs.YthimamnblklkbaaDoor
open Go Go.RowKit

theorem St.addLowB {α : Type} (K : Kind α) {B : Nat} {w0 w : World} {H : List Asn} {a : Option Addr} {l : List α} (hB : w0.heap.size = B) (hs : St B w0 [] w H) (h : CellsAt a (K.cells l) w0) : St B w0 [] w (K.low a l :: H) := by
  subst hB; exact St.addLow K hs h
theorem vapply_length (ws : List Int) (l : List (Int × Int)) : (vapply ws l).2.length = ws.length := by
  unfold vapply; split <;> simp [vflat_length]
set_option linter.unusedSimpArgs false
end Go.Proofs.YthimamnblklkbaaDoor
