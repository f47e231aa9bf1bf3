/-
  DERIVED. GIVEN WITH THE SEED: THE CARDS: each row of YthimamnblklkbaaDoorRows.lean that lists a variable, with what it lists TIED to the program's text (the seventh form; the later family's looks); each row that meets fmt, with fmt's text TOLD by the authors' own Lean function (tested against real Go, not proved from fmt's source: count such statements apart). THE CARD IS WHAT COUNTS. Prove the row's statement (the work); the ties are given (YthimamnblklkbaaDoorTie.lean); close each card by the builder's one call (the guide's Derived/Test/ToyasCard.lean, 'card_holds'). Laid BY PROGRAM, IN A SANDBOX (cutbox-door.mjs). By AI agents, Wed Nov 11 2026. No macro, syntax, notation, axiom, sorry.
-/
import Derived.Test.YthimamnblklkbaaDoorRows
import GoSem.ClaimSeven
namespace Go.Proofs.YthimamnblklkbaaDoor
namespace Rows

/-- THE TIED CARD OF 'grommetlaw06.BitmapNil'. -/
def bitmapNilCard : Claim7 := { stood := { row := bitmapNilRow, standIns := [], harness := (true, "3ab6015dd7296eaa053908e3eb4ed2591d5fd4a5803232c1494bf8c197d39bb9"), looks := false }, kinds := [], alts := [], laidByText := true, laidKinds := [.data], laidTests := true, laidLooks := .later }
def BitmapNilCardSaid : Prop := Claim7.holds Tryd.pinned (.plain (OpenSpec.ofChange bitmapNilSpec)) bitmapNilCard

/-- THE TIED CARD OF 'grommetlaw06.BitmapTwo'. -/
def bitmapTwoCard : Claim7 := { stood := { row := bitmapTwoRow, standIns := [], harness := (true, "3ab6015dd7296eaa053908e3eb4ed2591d5fd4a5803232c1494bf8c197d39bb9"), looks := false }, kinds := [], alts := [], laidByText := true, laidKinds := [.data], laidTests := true, laidLooks := .later }
def BitmapTwoCardSaid : Prop := Claim7.holds Tryd.pinned (.plain (OpenSpec.ofChange bitmapTwoSpec)) bitmapTwoCard

/-- THE TIED CARD OF 'grommetlaw06.BitmapFills'. -/
def bitmapFillsCard : Claim7 := { stood := { row := bitmapFillsRow, standIns := [], harness := (true, "3ab6015dd7296eaa053908e3eb4ed2591d5fd4a5803232c1494bf8c197d39bb9"), looks := false }, kinds := [], alts := [], laidByText := true, laidKinds := [.data], laidTests := true, laidLooks := .later }
def BitmapFillsCardSaid : Prop := Claim7.holds Tryd.pinned (.plain (OpenSpec.ofChange bitmapFillsSpec)) bitmapFillsCard

/-- THE TIED CARD OF 'grommetlaw06.BitmapOne'. -/
def bitmapOneCard : Claim7 := { stood := { row := bitmapOneRow, standIns := [], harness := (true, "3ab6015dd7296eaa053908e3eb4ed2591d5fd4a5803232c1494bf8c197d39bb9"), looks := false }, kinds := [], alts := [], laidByText := true, laidKinds := [.data], laidTests := true, laidLooks := .later }
def BitmapOneCardSaid : Prop := Claim7.holds Tryd.pinned (.plain (OpenSpec.ofChange bitmapOneSpec)) bitmapOneCard

/-- THE TIED CARD OF 'grommetlaw10.SlotNil'. -/
def slotNilCard : Claim7 := { stood := { row := slotNilRow, standIns := [], harness := (true, "3ab6015dd7296eaa053908e3eb4ed2591d5fd4a5803232c1494bf8c197d39bb9"), looks := false }, kinds := [], alts := [], laidByText := true, laidKinds := [.data], laidTests := true, laidLooks := .later }
def SlotNilCardSaid : Prop := Claim7.holds Tryd.pinned (.plain (OpenSpec.ofChange slotNilSpec)) slotNilCard

/-- THE TIED CARD OF 'grommetlaw10.SlotPlays'. -/
def slotPlaysCard : Claim7 := { stood := { row := slotPlaysRow, standIns := [], harness := (true, "3ab6015dd7296eaa053908e3eb4ed2591d5fd4a5803232c1494bf8c197d39bb9"), looks := false }, kinds := [], alts := [], laidByText := true, laidKinds := [.data], laidTests := true, laidLooks := .later }
def SlotPlaysCardSaid : Prop := Claim7.holds Tryd.pinned (.plain (OpenSpec.ofChange slotPlaysSpec)) slotPlaysCard

/-- THE TIED CARD OF 'grommetlaw10.SlotBack'. -/
def slotBackCard : Claim7 := { stood := { row := slotBackRow, standIns := [], harness := (true, "3ab6015dd7296eaa053908e3eb4ed2591d5fd4a5803232c1494bf8c197d39bb9"), looks := false }, kinds := [], alts := [], laidByText := true, laidKinds := [.data], laidTests := true, laidLooks := .later }
def SlotBackCardSaid : Prop := Claim7.holds Tryd.pinned (.plain (OpenSpec.ofChange slotBackSpec)) slotBackCard

/-- THE TIED CARD OF 'grommetlaw10.SlotWipes'. -/
def slotWipesCard : Claim7 := { stood := { row := slotWipesRow, standIns := [], harness := (true, "3ab6015dd7296eaa053908e3eb4ed2591d5fd4a5803232c1494bf8c197d39bb9"), looks := false }, kinds := [], alts := [], laidByText := true, laidKinds := [.data], laidTests := true, laidLooks := .later }
def SlotWipesCardSaid : Prop := Claim7.holds Tryd.pinned (.plain (OpenSpec.ofChange slotWipesSpec)) slotWipesCard

/-- THE TIED CARD OF 'grommetlaw10.SlotHeads'. -/
def slotHeadsCard : Claim7 := { stood := { row := slotHeadsRow, standIns := [], harness := (true, "3ab6015dd7296eaa053908e3eb4ed2591d5fd4a5803232c1494bf8c197d39bb9"), looks := false }, kinds := [], alts := [], laidByText := true, laidKinds := [.data], laidTests := true, laidLooks := .later }
def SlotHeadsCardSaid : Prop := Claim7.holds Tryd.pinned (.plain (OpenSpec.ofChange slotHeadsSpec)) slotHeadsCard

/-- THE TIED CARD OF 'grommetlaw07.AllocNil'. -/
def allocNilCard : Claim7 := { stood := { row := allocNilRow, standIns := [], harness := (true, "3ab6015dd7296eaa053908e3eb4ed2591d5fd4a5803232c1494bf8c197d39bb9"), looks := false }, kinds := [], alts := [], laidByText := true, laidKinds := [.data], laidTests := true, laidLooks := .later }
def AllocNilCardSaid : Prop := Claim7.holds Tryd.pinned (.plain (OpenSpec.ofChange allocNilSpec)) allocNilCard

/-- THE TIED CARD OF 'grommetlaw11.ClassWindow'. -/
def classWindowCard : Claim7 := { stood := { row := classWindowRow, standIns := [], harness := (true, "3ab6015dd7296eaa053908e3eb4ed2591d5fd4a5803232c1494bf8c197d39bb9"), looks := false }, kinds := [], alts := [], laidByText := true, laidKinds := [.data], laidTests := true, laidLooks := .later }
def ClassWindowCardSaid : Prop := Claim7.holds Tryd.pinned (.plain (OpenSpec.ofChange classWindowSpec)) classWindowCard

/-- THE TIED CARD OF 'grommetlaw11.ClassPlays'. -/
def classPlaysCard : Claim7 := { stood := { row := classPlaysRow, standIns := [], harness := (true, "3ab6015dd7296eaa053908e3eb4ed2591d5fd4a5803232c1494bf8c197d39bb9"), looks := false }, kinds := [], alts := [], laidByText := true, laidKinds := [.data], laidTests := true, laidLooks := .later }
def ClassPlaysCardSaid : Prop := Claim7.holds Tryd.pinned (.plain (OpenSpec.ofChange classPlaysSpec)) classPlaysCard

/-- THE TIED CARD OF 'grommetlaw07.AllocLeast'. -/
def allocLeastCard : Claim7 := { stood := { row := allocLeastRow, standIns := [], harness := (true, "3ab6015dd7296eaa053908e3eb4ed2591d5fd4a5803232c1494bf8c197d39bb9"), looks := false }, kinds := [], alts := [], laidByText := true, laidKinds := [.data], laidTests := true, laidLooks := .later }
def AllocLeastCardSaid : Prop := Claim7.holds Tryd.pinned (.plain (OpenSpec.ofChange allocLeastSpec)) allocLeastCard

/-- THE TIED CARD OF 'grommetlaw11.ClassOpens'. -/
def classOpensCard : Claim7 := { stood := { row := classOpensRow, standIns := [], harness := (true, "3ab6015dd7296eaa053908e3eb4ed2591d5fd4a5803232c1494bf8c197d39bb9"), looks := false }, kinds := [], alts := [], laidByText := true, laidKinds := [.data], laidTests := true, laidLooks := .later }
def ClassOpensCardSaid : Prop := Claim7.holds Tryd.pinned (.plain (OpenSpec.ofChange classOpensSpec)) classOpensCard

/-- THE TIED CARD OF 'grommetlaw07.AllocRefused'. -/
def allocRefusedCard : Claim7 := { stood := { row := allocRefusedRow, standIns := [], harness := (true, "3ab6015dd7296eaa053908e3eb4ed2591d5fd4a5803232c1494bf8c197d39bb9"), looks := false }, kinds := [], alts := [], laidByText := true, laidKinds := [.data], laidTests := true, laidLooks := .later }
def AllocRefusedCardSaid : Prop := Claim7.holds Tryd.pinned (.plain (OpenSpec.ofChange allocRefusedSpec)) allocRefusedCard

/-- THE TIED CARD OF 'grommetlaw07.AllocOnce'. -/
def allocOnceCard : Claim7 := { stood := { row := allocOnceRow, standIns := [], harness := (true, "3ab6015dd7296eaa053908e3eb4ed2591d5fd4a5803232c1494bf8c197d39bb9"), looks := false }, kinds := [], alts := [], laidByText := true, laidKinds := [.data], laidTests := true, laidLooks := .later }
def AllocOnceCardSaid : Prop := Claim7.holds Tryd.pinned (.plain (OpenSpec.ofChange allocOnceSpec)) allocOnceCard

/-- THE TIED CARD OF 'grommetlaw07.AllocPlays'. -/
def allocPlaysCard : Claim7 := { stood := { row := allocPlaysRow, standIns := [], harness := (true, "3ab6015dd7296eaa053908e3eb4ed2591d5fd4a5803232c1494bf8c197d39bb9"), looks := false }, kinds := [], alts := [], laidByText := true, laidKinds := [.data], laidTests := true, laidLooks := .later }
def AllocPlaysCardSaid : Prop := Claim7.holds Tryd.pinned (.plain (OpenSpec.ofChange allocPlaysSpec)) allocPlaysCard

/-- THE TIED CARD OF 'grommetlaw11.ClassOnce'. -/
def classOnceCard : Claim7 := { stood := { row := classOnceRow, standIns := [], harness := (true, "3ab6015dd7296eaa053908e3eb4ed2591d5fd4a5803232c1494bf8c197d39bb9"), looks := false }, kinds := [], alts := [], laidByText := true, laidKinds := [.data], laidTests := true, laidLooks := .later }
def ClassOnceCardSaid : Prop := Claim7.holds Tryd.pinned (.plain (OpenSpec.ofChange classOnceSpec)) classOnceCard

/-- THE SECOND FORM's CARD OF 'grommetlaw06.BitmapNil'. -/
def bitmapNilUptoCard : Claim7 := { stood := { row := bitmapNilUptoRow, standIns := [], harness := (true, "3ab6015dd7296eaa053908e3eb4ed2591d5fd4a5803232c1494bf8c197d39bb9"), looks := false }, kinds := [], alts := [], laidByText := true, laidKinds := [.data], laidTests := true, laidLooks := .later }
def BitmapNilUptoCardSaid : Prop := Claim7.holds Tryd.pinned (.plain (OpenSpec.upto bitmapNilSpec)) bitmapNilUptoCard

/-- THE SECOND FORM's CARD OF 'grommetlaw06.BitmapTwo'. -/
def bitmapTwoUptoCard : Claim7 := { stood := { row := bitmapTwoUptoRow, standIns := [], harness := (true, "3ab6015dd7296eaa053908e3eb4ed2591d5fd4a5803232c1494bf8c197d39bb9"), looks := false }, kinds := [], alts := [], laidByText := true, laidKinds := [.data], laidTests := true, laidLooks := .later }
def BitmapTwoUptoCardSaid : Prop := Claim7.holds Tryd.pinned (.plain (OpenSpec.upto bitmapTwoSpec)) bitmapTwoUptoCard

/-- THE SECOND FORM's CARD OF 'grommetlaw06.BitmapFills'. -/
def bitmapFillsUptoCard : Claim7 := { stood := { row := bitmapFillsUptoRow, standIns := [], harness := (true, "3ab6015dd7296eaa053908e3eb4ed2591d5fd4a5803232c1494bf8c197d39bb9"), looks := false }, kinds := [], alts := [], laidByText := true, laidKinds := [.data], laidTests := true, laidLooks := .later }
def BitmapFillsUptoCardSaid : Prop := Claim7.holds Tryd.pinned (.plain (OpenSpec.upto bitmapFillsSpec)) bitmapFillsUptoCard

/-- THE SECOND FORM's CARD OF 'grommetlaw06.BitmapOne'. -/
def bitmapOneUptoCard : Claim7 := { stood := { row := bitmapOneUptoRow, standIns := [], harness := (true, "3ab6015dd7296eaa053908e3eb4ed2591d5fd4a5803232c1494bf8c197d39bb9"), looks := false }, kinds := [], alts := [], laidByText := true, laidKinds := [.data], laidTests := true, laidLooks := .later }
def BitmapOneUptoCardSaid : Prop := Claim7.holds Tryd.pinned (.plain (OpenSpec.upto bitmapOneSpec)) bitmapOneUptoCard

/-- THE SECOND FORM's CARD OF 'grommetlaw10.SlotNil'. -/
def slotNilUptoCard : Claim7 := { stood := { row := slotNilUptoRow, standIns := [], harness := (true, "3ab6015dd7296eaa053908e3eb4ed2591d5fd4a5803232c1494bf8c197d39bb9"), looks := false }, kinds := [], alts := [], laidByText := true, laidKinds := [.data], laidTests := true, laidLooks := .later }
def SlotNilUptoCardSaid : Prop := Claim7.holds Tryd.pinned (.plain (OpenSpec.upto slotNilSpec)) slotNilUptoCard

/-- THE SECOND FORM's CARD OF 'grommetlaw10.SlotPlays'. -/
def slotPlaysUptoCard : Claim7 := { stood := { row := slotPlaysUptoRow, standIns := [], harness := (true, "3ab6015dd7296eaa053908e3eb4ed2591d5fd4a5803232c1494bf8c197d39bb9"), looks := false }, kinds := [], alts := [], laidByText := true, laidKinds := [.data], laidTests := true, laidLooks := .later }
def SlotPlaysUptoCardSaid : Prop := Claim7.holds Tryd.pinned (.plain (OpenSpec.upto slotPlaysSpec)) slotPlaysUptoCard

/-- THE SECOND FORM's CARD OF 'grommetlaw10.SlotBack'. -/
def slotBackUptoCard : Claim7 := { stood := { row := slotBackUptoRow, standIns := [], harness := (true, "3ab6015dd7296eaa053908e3eb4ed2591d5fd4a5803232c1494bf8c197d39bb9"), looks := false }, kinds := [], alts := [], laidByText := true, laidKinds := [.data], laidTests := true, laidLooks := .later }
def SlotBackUptoCardSaid : Prop := Claim7.holds Tryd.pinned (.plain (OpenSpec.upto slotBackSpec)) slotBackUptoCard

/-- THE SECOND FORM's CARD OF 'grommetlaw10.SlotWipes'. -/
def slotWipesUptoCard : Claim7 := { stood := { row := slotWipesUptoRow, standIns := [], harness := (true, "3ab6015dd7296eaa053908e3eb4ed2591d5fd4a5803232c1494bf8c197d39bb9"), looks := false }, kinds := [], alts := [], laidByText := true, laidKinds := [.data], laidTests := true, laidLooks := .later }
def SlotWipesUptoCardSaid : Prop := Claim7.holds Tryd.pinned (.plain (OpenSpec.upto slotWipesSpec)) slotWipesUptoCard

/-- THE SECOND FORM's CARD OF 'grommetlaw10.SlotHeads'. -/
def slotHeadsUptoCard : Claim7 := { stood := { row := slotHeadsUptoRow, standIns := [], harness := (true, "3ab6015dd7296eaa053908e3eb4ed2591d5fd4a5803232c1494bf8c197d39bb9"), looks := false }, kinds := [], alts := [], laidByText := true, laidKinds := [.data], laidTests := true, laidLooks := .later }
def SlotHeadsUptoCardSaid : Prop := Claim7.holds Tryd.pinned (.plain (OpenSpec.upto slotHeadsSpec)) slotHeadsUptoCard

/-- THE SECOND FORM's CARD OF 'grommetlaw07.AllocNil'. -/
def allocNilUptoCard : Claim7 := { stood := { row := allocNilUptoRow, standIns := [], harness := (true, "3ab6015dd7296eaa053908e3eb4ed2591d5fd4a5803232c1494bf8c197d39bb9"), looks := false }, kinds := [], alts := [], laidByText := true, laidKinds := [.data], laidTests := true, laidLooks := .later }
def AllocNilUptoCardSaid : Prop := Claim7.holds Tryd.pinned (.plain (OpenSpec.upto allocNilSpec)) allocNilUptoCard

/-- THE SECOND FORM's CARD OF 'grommetlaw11.ClassWindow'. -/
def classWindowUptoCard : Claim7 := { stood := { row := classWindowUptoRow, standIns := [], harness := (true, "3ab6015dd7296eaa053908e3eb4ed2591d5fd4a5803232c1494bf8c197d39bb9"), looks := false }, kinds := [], alts := [], laidByText := true, laidKinds := [.data], laidTests := true, laidLooks := .later }
def ClassWindowUptoCardSaid : Prop := Claim7.holds Tryd.pinned (.plain (OpenSpec.upto classWindowSpec)) classWindowUptoCard

/-- THE SECOND FORM's CARD OF 'grommetlaw11.ClassPlays'. -/
def classPlaysUptoCard : Claim7 := { stood := { row := classPlaysUptoRow, standIns := [], harness := (true, "3ab6015dd7296eaa053908e3eb4ed2591d5fd4a5803232c1494bf8c197d39bb9"), looks := false }, kinds := [], alts := [], laidByText := true, laidKinds := [.data], laidTests := true, laidLooks := .later }
def ClassPlaysUptoCardSaid : Prop := Claim7.holds Tryd.pinned (.plain (OpenSpec.upto classPlaysSpec)) classPlaysUptoCard

/-- THE SECOND FORM's CARD OF 'grommetlaw07.AllocLeast'. -/
def allocLeastUptoCard : Claim7 := { stood := { row := allocLeastUptoRow, standIns := [], harness := (true, "3ab6015dd7296eaa053908e3eb4ed2591d5fd4a5803232c1494bf8c197d39bb9"), looks := false }, kinds := [], alts := [], laidByText := true, laidKinds := [.data], laidTests := true, laidLooks := .later }
def AllocLeastUptoCardSaid : Prop := Claim7.holds Tryd.pinned (.plain (OpenSpec.upto allocLeastSpec)) allocLeastUptoCard

/-- THE SECOND FORM's CARD OF 'grommetlaw11.ClassOpens'. -/
def classOpensUptoCard : Claim7 := { stood := { row := classOpensUptoRow, standIns := [], harness := (true, "3ab6015dd7296eaa053908e3eb4ed2591d5fd4a5803232c1494bf8c197d39bb9"), looks := false }, kinds := [], alts := [], laidByText := true, laidKinds := [.data], laidTests := true, laidLooks := .later }
def ClassOpensUptoCardSaid : Prop := Claim7.holds Tryd.pinned (.plain (OpenSpec.upto classOpensSpec)) classOpensUptoCard

/-- THE SECOND FORM's CARD OF 'grommetlaw07.AllocRefused'. -/
def allocRefusedUptoCard : Claim7 := { stood := { row := allocRefusedUptoRow, standIns := [], harness := (true, "3ab6015dd7296eaa053908e3eb4ed2591d5fd4a5803232c1494bf8c197d39bb9"), looks := false }, kinds := [], alts := [], laidByText := true, laidKinds := [.data], laidTests := true, laidLooks := .later }
def AllocRefusedUptoCardSaid : Prop := Claim7.holds Tryd.pinned (.plain (OpenSpec.upto allocRefusedSpec)) allocRefusedUptoCard

/-- THE SECOND FORM's CARD OF 'grommetlaw07.AllocOnce'. -/
def allocOnceUptoCard : Claim7 := { stood := { row := allocOnceUptoRow, standIns := [], harness := (true, "3ab6015dd7296eaa053908e3eb4ed2591d5fd4a5803232c1494bf8c197d39bb9"), looks := false }, kinds := [], alts := [], laidByText := true, laidKinds := [.data], laidTests := true, laidLooks := .later }
def AllocOnceUptoCardSaid : Prop := Claim7.holds Tryd.pinned (.plain (OpenSpec.upto allocOnceSpec)) allocOnceUptoCard

/-- THE SECOND FORM's CARD OF 'grommetlaw07.AllocPlays'. -/
def allocPlaysUptoCard : Claim7 := { stood := { row := allocPlaysUptoRow, standIns := [], harness := (true, "3ab6015dd7296eaa053908e3eb4ed2591d5fd4a5803232c1494bf8c197d39bb9"), looks := false }, kinds := [], alts := [], laidByText := true, laidKinds := [.data], laidTests := true, laidLooks := .later }
def AllocPlaysUptoCardSaid : Prop := Claim7.holds Tryd.pinned (.plain (OpenSpec.upto allocPlaysSpec)) allocPlaysUptoCard

/-- THE SECOND FORM's CARD OF 'grommetlaw11.ClassOnce'. -/
def classOnceUptoCard : Claim7 := { stood := { row := classOnceUptoRow, standIns := [], harness := (true, "3ab6015dd7296eaa053908e3eb4ed2591d5fd4a5803232c1494bf8c197d39bb9"), looks := false }, kinds := [], alts := [], laidByText := true, laidKinds := [.data], laidTests := true, laidLooks := .later }
def ClassOnceUptoCardSaid : Prop := Claim7.holds Tryd.pinned (.plain (OpenSpec.upto classOnceSpec)) classOnceUptoCard
end Rows
end Go.Proofs.YthimamnblklkbaaDoor
