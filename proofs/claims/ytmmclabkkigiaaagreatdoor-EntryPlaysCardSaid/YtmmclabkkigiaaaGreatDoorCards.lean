/-
  DERIVED. GIVEN WITH THE SEED: THE CARDS: each row of YtmmclabkkigiaaaGreatDoorRows.lean that lists a variable, with what it lists TIED to the program's text (the seventh form; the later family's looks); each row that meets fmt, with fmt's text TOLD by the authors' own Lean function (tested against real Go, not proved from fmt's source: count such statements apart). THE CARD IS WHAT COUNTS. Prove the row's statement (the work); the ties are given (YtmmclabkkigiaaaGreatDoorTie.lean); close each card by the builder's one call (the guide's Derived/Test/ToyasCard.lean, 'card_holds'). Laid BY PROGRAM, IN A SANDBOX (cutbox-door.mjs). By AI agents, Wed Nov 11 2026. No macro, syntax, notation, axiom, sorry.
-/
import Derived.Test.YtmmclabkkigiaaaGreatDoorRows
import GoSem.ClaimSeven
namespace Go.Proofs.YtmmclabkkigiaaaGreatDoor
namespace Rows

/-- THE TIED CARD OF 'grommetlaw15.EntryNames'. -/
def entryNamesCard : Claim7 := { stood := { row := entryNamesRow, standIns := [], harness := (true, "056a9ebd9aeee0e6afff036bdceb98945e1f9728f64ef0347502c2b89040cba7"), looks := false }, kinds := [], alts := [], laidByText := true, laidKinds := [.data], laidTests := true, laidLooks := .later }
def EntryNamesCardSaid : Prop := Claim7.holds Tryz.pinned (.plain (OpenSpec.ofChange entryNamesSpec)) entryNamesCard

/-- THE TIED CARD OF 'grommetlaw15.EntryNil'. -/
def entryNilCard : Claim7 := { stood := { row := entryNilRow, standIns := [], harness := (true, "056a9ebd9aeee0e6afff036bdceb98945e1f9728f64ef0347502c2b89040cba7"), looks := false }, kinds := [], alts := [], laidByText := true, laidKinds := [.data], laidTests := true, laidLooks := .later }
def EntryNilCardSaid : Prop := Claim7.holds Tryz.pinned (.plain (OpenSpec.ofChange entryNilSpec)) entryNilCard

/-- THE TIED CARD OF 'grommetlaw15.EntryPlays'. -/
def entryPlaysCard : Claim7 := { stood := { row := entryPlaysRow, standIns := [], harness := (true, "056a9ebd9aeee0e6afff036bdceb98945e1f9728f64ef0347502c2b89040cba7"), looks := false }, kinds := [], alts := [], laidByText := true, laidKinds := [.data], laidTests := true, laidLooks := .later }
def EntryPlaysCardSaid : Prop := Claim7.holds Tryz.pinned (.plain (OpenSpec.ofChange entryPlaysSpec)) entryPlaysCard

/-- THE TIED CARD OF 'grommetlaw15.EntryFull'. -/
def entryFullCard : Claim7 := { stood := { row := entryFullRow, standIns := [], harness := (true, "056a9ebd9aeee0e6afff036bdceb98945e1f9728f64ef0347502c2b89040cba7"), looks := false }, kinds := [], alts := [], laidByText := true, laidKinds := [.data], laidTests := true, laidLooks := .later }
def EntryFullCardSaid : Prop := Claim7.holds Tryz.pinned (.plain (OpenSpec.ofChange entryFullSpec)) entryFullCard

/-- THE TIED CARD OF 'grommetlaw15.EntryTable'. -/
def entryTableCard : Claim7 := { stood := { row := entryTableRow, standIns := [], harness := (true, "056a9ebd9aeee0e6afff036bdceb98945e1f9728f64ef0347502c2b89040cba7"), looks := false }, kinds := [], alts := [], laidByText := true, laidKinds := [.data], laidTests := true, laidLooks := .later }
def EntryTableCardSaid : Prop := Claim7.holds Tryz.pinned (.plain (OpenSpec.ofChange entryTableSpec)) entryTableCard

/-- THE SECOND FORM's CARD OF 'grommetlaw15.EntryNames'. -/
def entryNamesUptoCard : Claim7 := { stood := { row := entryNamesUptoRow, standIns := [], harness := (true, "056a9ebd9aeee0e6afff036bdceb98945e1f9728f64ef0347502c2b89040cba7"), looks := false }, kinds := [], alts := [], laidByText := true, laidKinds := [.data], laidTests := true, laidLooks := .later }
def EntryNamesUptoCardSaid : Prop := Claim7.holds Tryz.pinned (.plain (OpenSpec.upto entryNamesSpec)) entryNamesUptoCard

/-- THE SECOND FORM's CARD OF 'grommetlaw15.EntryNil'. -/
def entryNilUptoCard : Claim7 := { stood := { row := entryNilUptoRow, standIns := [], harness := (true, "056a9ebd9aeee0e6afff036bdceb98945e1f9728f64ef0347502c2b89040cba7"), looks := false }, kinds := [], alts := [], laidByText := true, laidKinds := [.data], laidTests := true, laidLooks := .later }
def EntryNilUptoCardSaid : Prop := Claim7.holds Tryz.pinned (.plain (OpenSpec.upto entryNilSpec)) entryNilUptoCard

/-- THE SECOND FORM's CARD OF 'grommetlaw15.EntryPlays'. -/
def entryPlaysUptoCard : Claim7 := { stood := { row := entryPlaysUptoRow, standIns := [], harness := (true, "056a9ebd9aeee0e6afff036bdceb98945e1f9728f64ef0347502c2b89040cba7"), looks := false }, kinds := [], alts := [], laidByText := true, laidKinds := [.data], laidTests := true, laidLooks := .later }
def EntryPlaysUptoCardSaid : Prop := Claim7.holds Tryz.pinned (.plain (OpenSpec.upto entryPlaysSpec)) entryPlaysUptoCard

/-- THE SECOND FORM's CARD OF 'grommetlaw15.EntryFull'. -/
def entryFullUptoCard : Claim7 := { stood := { row := entryFullUptoRow, standIns := [], harness := (true, "056a9ebd9aeee0e6afff036bdceb98945e1f9728f64ef0347502c2b89040cba7"), looks := false }, kinds := [], alts := [], laidByText := true, laidKinds := [.data], laidTests := true, laidLooks := .later }
def EntryFullUptoCardSaid : Prop := Claim7.holds Tryz.pinned (.plain (OpenSpec.upto entryFullSpec)) entryFullUptoCard

/-- THE SECOND FORM's CARD OF 'grommetlaw15.EntryTable'. -/
def entryTableUptoCard : Claim7 := { stood := { row := entryTableUptoRow, standIns := [], harness := (true, "056a9ebd9aeee0e6afff036bdceb98945e1f9728f64ef0347502c2b89040cba7"), looks := false }, kinds := [], alts := [], laidByText := true, laidKinds := [.data], laidTests := true, laidLooks := .later }
def EntryTableUptoCardSaid : Prop := Claim7.holds Tryz.pinned (.plain (OpenSpec.upto entryTableSpec)) entryTableUptoCard
end Rows
end Go.Proofs.YtmmclabkkigiaaaGreatDoor
