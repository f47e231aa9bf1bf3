/-
  DERIVED. GIVEN WITH THE SEED: THE CARDS: each row of YtmmclabkkigiaaaDoorRows.lean that lists a variable, with what it lists TIED to the program's text (the seventh form; the later family's looks); each row that meets fmt, with fmt's text TOLD by the authors' own Lean function (tested against real Go, not proved from fmt's source: count such statements apart). THE CARD IS WHAT COUNTS. Prove the row's statement (the work); the ties are given (YtmmclabkkigiaaaDoorTie.lean); close each card by the builder's one call (the guide's Derived/Test/ToyasCard.lean, 'card_holds'). Laid BY PROGRAM, IN A SANDBOX (cutbox-door.mjs). By AI agents, Wed Nov 11 2026. No macro, syntax, notation, axiom, sorry.
-/
import Derived.Test.YtmmclabkkigiaaaDoorRows
import GoSem.ClaimSeven
namespace Go.Proofs.YtmmclabkkigiaaaDoor
namespace Rows

/-- THE TIED CARD OF 'grommetlaw13.BlocksNil'. -/
def blocksNilCard : Claim7 := { stood := { row := blocksNilRow, standIns := [], harness := (true, "b301206068d09c589c049a84439cfac397fcf30fe99f46c51841731a95e690b1"), looks := false }, kinds := [], alts := [], laidByText := true, laidKinds := [.data], laidTests := true, laidLooks := .later }
def BlocksNilCardSaid : Prop := Claim7.holds Tryd.pinned (.plain (OpenSpec.ofChange blocksNilSpec)) blocksNilCard

/-- THE TIED CARD OF 'grommetlaw13.BlocksApart'. -/
def blocksApartCard : Claim7 := { stood := { row := blocksApartRow, standIns := [], harness := (true, "b301206068d09c589c049a84439cfac397fcf30fe99f46c51841731a95e690b1"), looks := false }, kinds := [], alts := [], laidByText := true, laidKinds := [.data], laidTests := true, laidLooks := .later }
def BlocksApartCardSaid : Prop := Claim7.holds Tryd.pinned (.plain (OpenSpec.ofChange blocksApartSpec)) blocksApartCard

/-- THE TIED CARD OF 'grommetlaw13.BlocksBack'. -/
def blocksBackCard : Claim7 := { stood := { row := blocksBackRow, standIns := [], harness := (true, "b301206068d09c589c049a84439cfac397fcf30fe99f46c51841731a95e690b1"), looks := false }, kinds := [], alts := [], laidByText := true, laidKinds := [.data], laidTests := true, laidLooks := .later }
def BlocksBackCardSaid : Prop := Claim7.holds Tryd.pinned (.plain (OpenSpec.ofChange blocksBackSpec)) blocksBackCard

/-- THE TIED CARD OF 'grommetlaw13.BlocksOnce'. -/
def blocksOnceCard : Claim7 := { stood := { row := blocksOnceRow, standIns := [], harness := (true, "b301206068d09c589c049a84439cfac397fcf30fe99f46c51841731a95e690b1"), looks := false }, kinds := [], alts := [], laidByText := true, laidKinds := [.data], laidTests := true, laidLooks := .later }
def BlocksOnceCardSaid : Prop := Claim7.holds Tryd.pinned (.plain (OpenSpec.ofChange blocksOnceSpec)) blocksOnceCard

/-- THE TIED CARD OF 'grommetlaw14.DataNil'. -/
def dataNilCard : Claim7 := { stood := { row := dataNilRow, standIns := [], harness := (true, "b301206068d09c589c049a84439cfac397fcf30fe99f46c51841731a95e690b1"), looks := false }, kinds := [], alts := [], laidByText := true, laidKinds := [.data], laidTests := true, laidLooks := .later }
def DataNilCardSaid : Prop := Claim7.holds Tryd.pinned (.plain (OpenSpec.ofChange dataNilSpec)) dataNilCard

/-- THE TIED CARD OF 'grommetlaw14.DataHolds'. -/
def dataHoldsCard : Claim7 := { stood := { row := dataHoldsRow, standIns := [], harness := (true, "b301206068d09c589c049a84439cfac397fcf30fe99f46c51841731a95e690b1"), looks := false }, kinds := [], alts := [], laidByText := true, laidKinds := [.data], laidTests := true, laidLooks := .later }
def DataHoldsCardSaid : Prop := Claim7.holds Tryd.pinned (.plain (OpenSpec.ofChange dataHoldsSpec)) dataHoldsCard

/-- THE TIED CARD OF 'grommetlaw14.DataCounts'. -/
def dataCountsCard : Claim7 := { stood := { row := dataCountsRow, standIns := [], harness := (true, "b301206068d09c589c049a84439cfac397fcf30fe99f46c51841731a95e690b1"), looks := false }, kinds := [], alts := [], laidByText := true, laidKinds := [.data], laidTests := true, laidLooks := .later }
def DataCountsCardSaid : Prop := Claim7.holds Tryd.pinned (.plain (OpenSpec.ofChange dataCountsSpec)) dataCountsCard

/-- THE TIED CARD OF 'grommetlaw14.DataParts'. -/
def dataPartsCard : Claim7 := { stood := { row := dataPartsRow, standIns := [], harness := (true, "b301206068d09c589c049a84439cfac397fcf30fe99f46c51841731a95e690b1"), looks := false }, kinds := [], alts := [], laidByText := true, laidKinds := [.data], laidTests := true, laidLooks := .later }
def DataPartsCardSaid : Prop := Claim7.holds Tryd.pinned (.plain (OpenSpec.ofChange dataPartsSpec)) dataPartsCard

/-- THE SECOND FORM's CARD OF 'grommetlaw13.BlocksNil'. -/
def blocksNilUptoCard : Claim7 := { stood := { row := blocksNilUptoRow, standIns := [], harness := (true, "b301206068d09c589c049a84439cfac397fcf30fe99f46c51841731a95e690b1"), looks := false }, kinds := [], alts := [], laidByText := true, laidKinds := [.data], laidTests := true, laidLooks := .later }
def BlocksNilUptoCardSaid : Prop := Claim7.holds Tryd.pinned (.plain (OpenSpec.upto blocksNilSpec)) blocksNilUptoCard

/-- THE SECOND FORM's CARD OF 'grommetlaw13.BlocksApart'. -/
def blocksApartUptoCard : Claim7 := { stood := { row := blocksApartUptoRow, standIns := [], harness := (true, "b301206068d09c589c049a84439cfac397fcf30fe99f46c51841731a95e690b1"), looks := false }, kinds := [], alts := [], laidByText := true, laidKinds := [.data], laidTests := true, laidLooks := .later }
def BlocksApartUptoCardSaid : Prop := Claim7.holds Tryd.pinned (.plain (OpenSpec.upto blocksApartSpec)) blocksApartUptoCard

/-- THE SECOND FORM's CARD OF 'grommetlaw13.BlocksBack'. -/
def blocksBackUptoCard : Claim7 := { stood := { row := blocksBackUptoRow, standIns := [], harness := (true, "b301206068d09c589c049a84439cfac397fcf30fe99f46c51841731a95e690b1"), looks := false }, kinds := [], alts := [], laidByText := true, laidKinds := [.data], laidTests := true, laidLooks := .later }
def BlocksBackUptoCardSaid : Prop := Claim7.holds Tryd.pinned (.plain (OpenSpec.upto blocksBackSpec)) blocksBackUptoCard

/-- THE SECOND FORM's CARD OF 'grommetlaw13.BlocksOnce'. -/
def blocksOnceUptoCard : Claim7 := { stood := { row := blocksOnceUptoRow, standIns := [], harness := (true, "b301206068d09c589c049a84439cfac397fcf30fe99f46c51841731a95e690b1"), looks := false }, kinds := [], alts := [], laidByText := true, laidKinds := [.data], laidTests := true, laidLooks := .later }
def BlocksOnceUptoCardSaid : Prop := Claim7.holds Tryd.pinned (.plain (OpenSpec.upto blocksOnceSpec)) blocksOnceUptoCard

/-- THE SECOND FORM's CARD OF 'grommetlaw14.DataNil'. -/
def dataNilUptoCard : Claim7 := { stood := { row := dataNilUptoRow, standIns := [], harness := (true, "b301206068d09c589c049a84439cfac397fcf30fe99f46c51841731a95e690b1"), looks := false }, kinds := [], alts := [], laidByText := true, laidKinds := [.data], laidTests := true, laidLooks := .later }
def DataNilUptoCardSaid : Prop := Claim7.holds Tryd.pinned (.plain (OpenSpec.upto dataNilSpec)) dataNilUptoCard

/-- THE SECOND FORM's CARD OF 'grommetlaw14.DataHolds'. -/
def dataHoldsUptoCard : Claim7 := { stood := { row := dataHoldsUptoRow, standIns := [], harness := (true, "b301206068d09c589c049a84439cfac397fcf30fe99f46c51841731a95e690b1"), looks := false }, kinds := [], alts := [], laidByText := true, laidKinds := [.data], laidTests := true, laidLooks := .later }
def DataHoldsUptoCardSaid : Prop := Claim7.holds Tryd.pinned (.plain (OpenSpec.upto dataHoldsSpec)) dataHoldsUptoCard

/-- THE SECOND FORM's CARD OF 'grommetlaw14.DataCounts'. -/
def dataCountsUptoCard : Claim7 := { stood := { row := dataCountsUptoRow, standIns := [], harness := (true, "b301206068d09c589c049a84439cfac397fcf30fe99f46c51841731a95e690b1"), looks := false }, kinds := [], alts := [], laidByText := true, laidKinds := [.data], laidTests := true, laidLooks := .later }
def DataCountsUptoCardSaid : Prop := Claim7.holds Tryd.pinned (.plain (OpenSpec.upto dataCountsSpec)) dataCountsUptoCard

/-- THE SECOND FORM's CARD OF 'grommetlaw14.DataParts'. -/
def dataPartsUptoCard : Claim7 := { stood := { row := dataPartsUptoRow, standIns := [], harness := (true, "b301206068d09c589c049a84439cfac397fcf30fe99f46c51841731a95e690b1"), looks := false }, kinds := [], alts := [], laidByText := true, laidKinds := [.data], laidTests := true, laidLooks := .later }
def DataPartsUptoCardSaid : Prop := Claim7.holds Tryd.pinned (.plain (OpenSpec.upto dataPartsSpec)) dataPartsUptoCard
end Rows
end Go.Proofs.YtmmclabkkigiaaaDoor
