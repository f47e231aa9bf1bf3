/-
  NARROWER THAN 'FOR EVERY INPUT', by the rows' own cells (each row's printed sentence says how): BitmapNil: laid · BitmapTwo: laid · BitmapFills: laid · BitmapOne: laid · SlotNil: laid · SlotPlays: laid · SlotBack: laid · SlotWipes: laid · SlotHeads: laid · AllocNil: laid · ClassWindow: laid · ClassPlays: laid · AllocLeast: laid · ClassOpens: laid · AllocRefused: laid · AllocOnce: laid · AllocPlays: laid · ClassOnce: laid.
  DERIVED. THE GIVEN ROWS OF THIS SEAT. 18 by the template 'for every input the law returns true; each argument reads behind the call as it read before'; 0 by the template 'total and deterministic' (their statements: YthimamnblklkbaaDoorTotals.lean).
  GIVEN WITH THE SEED: the statements are not yours to turn. If you find one false, say at which input.
  Laid BY PROGRAM, IN A SANDBOX (cutbox-rows.mjs): the forced cells as the released guide's own fill.sh prints them over the translation 358060462ae485b3… (all of the seat's roots in one cut). By AI agents, Wed Nov 11 2026. No macro, syntax, notation, axiom, sorry.
-/
import Derived.Test.YthimamnblklkbaaDoorChecked
import GoSem.Claim
import GoSem.ClaimJoined
import GoSem.ClaimMapViews
import Derived.JoinedTies
import Derived.KernelRfl
namespace Go.Proofs.YthimamnblklkbaaDoor
/- THE CELL 'sum', in the pinned program and in every row, IS THE sha256 OF THE DUMP (.gsa) THAT YthimamnblklkbaaDoorProg.lean LOADS. Nothing in Lean hashes anything: it is a label: what it is worth is what the hold of that sum in a sandbox is worth. -/
noncomputable def Tryd.pinned : Pinned := { name := "ythimamnblklkbaadoor", sum := "358060462ae485b30cb51cab556cff43ed20c4e4e6e2906424dca856392ab870", checked := Tryd.checked }
namespace Rows
def none {H : Type} : Left H := { results := [], args := [] }

/- WHAT THE LISTED PACKAGE-LEVEL VARIABLES READ AS WHEN THE CALL BEGINS. Each datum BY PROGRAM (the guide's laid-datum.mjs) off the statement by which the dump's own 'gosem.cut.vars' lays the variable. In a bare row this is a premise. The card (YthimamnblklkbaaDoorCards.lean) ties it to the program's text. -/
def laid_math_bits_deBruijn64tab {H : Type} : DataW H := .agg [.lit (.int .u8 0), .lit (.int .u8 1), .lit (.int .u8 56), .lit (.int .u8 2), .lit (.int .u8 57), .lit (.int .u8 49), .lit (.int .u8 28), .lit (.int .u8 3), .lit (.int .u8 61), .lit (.int .u8 58), .lit (.int .u8 42), .lit (.int .u8 50), .lit (.int .u8 38), .lit (.int .u8 29), .lit (.int .u8 17), .lit (.int .u8 4), .lit (.int .u8 62), .lit (.int .u8 47), .lit (.int .u8 59), .lit (.int .u8 36), .lit (.int .u8 45), .lit (.int .u8 43), .lit (.int .u8 51), .lit (.int .u8 22), .lit (.int .u8 53), .lit (.int .u8 39), .lit (.int .u8 33), .lit (.int .u8 30), .lit (.int .u8 24), .lit (.int .u8 18), .lit (.int .u8 12), .lit (.int .u8 5), .lit (.int .u8 63), .lit (.int .u8 55), .lit (.int .u8 48), .lit (.int .u8 27), .lit (.int .u8 60), .lit (.int .u8 41), .lit (.int .u8 37), .lit (.int .u8 16), .lit (.int .u8 46), .lit (.int .u8 35), .lit (.int .u8 44), .lit (.int .u8 21), .lit (.int .u8 52), .lit (.int .u8 32), .lit (.int .u8 23), .lit (.int .u8 11), .lit (.int .u8 54), .lit (.int .u8 26), .lit (.int .u8 40), .lit (.int .u8 15), .lit (.int .u8 34), .lit (.int .u8 20), .lit (.int .u8 31), .lit (.int .u8 10), .lit (.int .u8 25), .lit (.int .u8 14), .lit (.int .u8 19), .lit (.int .u8 9), .lit (.int .u8 13), .lit (.int .u8 8), .lit (.int .u8 7), .lit (.int .u8 6)]
def laid_grommet_layout_least {H : Type} : DataW H := .agg [.lit (.int .i64 1), .lit (.int .i64 2), .lit (.int .i64 2)]

/-- 'grommetlaw06.BitmapNil': WHATEVER THE INPUT: true; the input reads as it did. -/
def bitmapNilSpec : ChangeSpec := { name := "bitmapNil", fn := fun _ => fun
  | [d1, d2, d3] => { results := [.lit (.bool true)], args := [d1, d2, d3] }
  | _ => none }
def bitmapNilRow : OpenClaim := { program := "ythimamnblklkbaadoor", sum := "358060462ae485b30cb51cab556cff43ed20c4e4e6e2906424dca856392ab870", func := "grommet/grommetlaw06.BitmapNil", spec := "bitmapNil", unfollowed := true, recurses := true, named := ["math/bits.deBruijn64tab"], apart := false, laid := [("math/bits.deBruijn64tab", laid_math_bits_deBruijn64tab)] }
def BitmapNilSaid : Prop := bitmapNilRow.holds Tryd.pinned (OpenSpec.ofChange bitmapNilSpec)

/-- ITS FALSE NEIGHBOUR: 'it returns false'. Refute it at one input. -/
def bitmapNilWrong : ChangeSpec := { name := "bitmapNil", fn := fun _ => fun
  | [d1, d2, d3] => { results := [.lit (.bool false)], args := [d1, d2, d3] }
  | _ => none }
def BitmapNilWrongFalsely : Prop := bitmapNilRow.holds Tryd.pinned (OpenSpec.ofChange bitmapNilWrong)

/-- 'grommetlaw06.BitmapTwo': WHATEVER THE INPUT: true; the input reads as it did. -/
def bitmapTwoSpec : ChangeSpec := { name := "bitmapTwo", fn := fun _ => fun
  | [d1, d2] => { results := [.lit (.bool true)], args := [d1, d2] }
  | _ => none }
def bitmapTwoRow : OpenClaim := { program := "ythimamnblklkbaadoor", sum := "358060462ae485b30cb51cab556cff43ed20c4e4e6e2906424dca856392ab870", func := "grommet/grommetlaw06.BitmapTwo", spec := "bitmapTwo", unfollowed := true, recurses := true, named := ["math/bits.deBruijn64tab"], apart := false, laid := [("math/bits.deBruijn64tab", laid_math_bits_deBruijn64tab)] }
def BitmapTwoSaid : Prop := bitmapTwoRow.holds Tryd.pinned (OpenSpec.ofChange bitmapTwoSpec)

/-- ITS FALSE NEIGHBOUR: 'it returns false'. Refute it at one input. -/
def bitmapTwoWrong : ChangeSpec := { name := "bitmapTwo", fn := fun _ => fun
  | [d1, d2] => { results := [.lit (.bool false)], args := [d1, d2] }
  | _ => none }
def BitmapTwoWrongFalsely : Prop := bitmapTwoRow.holds Tryd.pinned (OpenSpec.ofChange bitmapTwoWrong)

/-- 'grommetlaw06.BitmapFills': WHATEVER THE INPUT: true; the input reads as it did. -/
def bitmapFillsSpec : ChangeSpec := { name := "bitmapFills", fn := fun _ => fun
  | [d1, d2, d3] => { results := [.lit (.bool true)], args := [d1, d2, d3] }
  | _ => none }
def bitmapFillsRow : OpenClaim := { program := "ythimamnblklkbaadoor", sum := "358060462ae485b30cb51cab556cff43ed20c4e4e6e2906424dca856392ab870", func := "grommet/grommetlaw06.BitmapFills", spec := "bitmapFills", unfollowed := true, recurses := true, named := ["math/bits.deBruijn64tab"], apart := false, laid := [("math/bits.deBruijn64tab", laid_math_bits_deBruijn64tab)] }
def BitmapFillsSaid : Prop := bitmapFillsRow.holds Tryd.pinned (OpenSpec.ofChange bitmapFillsSpec)

/-- ITS FALSE NEIGHBOUR: 'it returns false'. Refute it at one input. -/
def bitmapFillsWrong : ChangeSpec := { name := "bitmapFills", fn := fun _ => fun
  | [d1, d2, d3] => { results := [.lit (.bool false)], args := [d1, d2, d3] }
  | _ => none }
def BitmapFillsWrongFalsely : Prop := bitmapFillsRow.holds Tryd.pinned (OpenSpec.ofChange bitmapFillsWrong)

/-- 'grommetlaw06.BitmapOne': WHATEVER THE INPUT: true; the input reads as it did. -/
def bitmapOneSpec : ChangeSpec := { name := "bitmapOne", fn := fun _ => fun
  | [d1, d2, d3, d4] => { results := [.lit (.bool true)], args := [d1, d2, d3, d4] }
  | _ => none }
def bitmapOneRow : OpenClaim := { program := "ythimamnblklkbaadoor", sum := "358060462ae485b30cb51cab556cff43ed20c4e4e6e2906424dca856392ab870", func := "grommet/grommetlaw06.BitmapOne", spec := "bitmapOne", unfollowed := true, recurses := true, named := ["math/bits.deBruijn64tab"], apart := false, laid := [("math/bits.deBruijn64tab", laid_math_bits_deBruijn64tab)] }
def BitmapOneSaid : Prop := bitmapOneRow.holds Tryd.pinned (OpenSpec.ofChange bitmapOneSpec)

/-- ITS FALSE NEIGHBOUR: 'it returns false'. Refute it at one input. -/
def bitmapOneWrong : ChangeSpec := { name := "bitmapOne", fn := fun _ => fun
  | [d1, d2, d3, d4] => { results := [.lit (.bool false)], args := [d1, d2, d3, d4] }
  | _ => none }
def BitmapOneWrongFalsely : Prop := bitmapOneRow.holds Tryd.pinned (OpenSpec.ofChange bitmapOneWrong)

/-- 'grommetlaw10.SlotNil': WHATEVER THE INPUT: true; the input reads as it did. -/
def slotNilSpec : ChangeSpec := { name := "slotNil", fn := fun _ => fun
  | [d1, d2, d3, d4] => { results := [.lit (.bool true)], args := [d1, d2, d3, d4] }
  | _ => none }
def slotNilRow : OpenClaim := { program := "ythimamnblklkbaadoor", sum := "358060462ae485b30cb51cab556cff43ed20c4e4e6e2906424dca856392ab870", func := "grommet/grommetlaw10.SlotNil", spec := "slotNil", unfollowed := true, recurses := true, named := ["grommet/layout.least"], apart := false, laid := [("grommet/layout.least", laid_grommet_layout_least)] }
def SlotNilSaid : Prop := slotNilRow.holds Tryd.pinned (OpenSpec.ofChange slotNilSpec)

/-- ITS FALSE NEIGHBOUR: 'it returns false'. Refute it at one input. -/
def slotNilWrong : ChangeSpec := { name := "slotNil", fn := fun _ => fun
  | [d1, d2, d3, d4] => { results := [.lit (.bool false)], args := [d1, d2, d3, d4] }
  | _ => none }
def SlotNilWrongFalsely : Prop := slotNilRow.holds Tryd.pinned (OpenSpec.ofChange slotNilWrong)

/-- 'grommetlaw10.SlotPlays': WHATEVER THE INPUT: true; the input reads as it did. -/
def slotPlaysSpec : ChangeSpec := { name := "slotPlays", fn := fun _ => fun
  | [d1, d2, d3] => { results := [.lit (.bool true)], args := [d1, d2, d3] }
  | _ => none }
def slotPlaysRow : OpenClaim := { program := "ythimamnblklkbaadoor", sum := "358060462ae485b30cb51cab556cff43ed20c4e4e6e2906424dca856392ab870", func := "grommet/grommetlaw10.SlotPlays", spec := "slotPlays", unfollowed := true, recurses := true, named := ["grommet/layout.least"], apart := false, laid := [("grommet/layout.least", laid_grommet_layout_least)] }
def SlotPlaysSaid : Prop := slotPlaysRow.holds Tryd.pinned (OpenSpec.ofChange slotPlaysSpec)

/-- ITS FALSE NEIGHBOUR: 'it returns false'. Refute it at one input. -/
def slotPlaysWrong : ChangeSpec := { name := "slotPlays", fn := fun _ => fun
  | [d1, d2, d3] => { results := [.lit (.bool false)], args := [d1, d2, d3] }
  | _ => none }
def SlotPlaysWrongFalsely : Prop := slotPlaysRow.holds Tryd.pinned (OpenSpec.ofChange slotPlaysWrong)

/-- 'grommetlaw10.SlotBack': WHATEVER THE INPUT: true; the input reads as it did. -/
def slotBackSpec : ChangeSpec := { name := "slotBack", fn := fun _ => fun
  | [d1, d2, d3, d4, d5] => { results := [.lit (.bool true)], args := [d1, d2, d3, d4, d5] }
  | _ => none }
def slotBackRow : OpenClaim := { program := "ythimamnblklkbaadoor", sum := "358060462ae485b30cb51cab556cff43ed20c4e4e6e2906424dca856392ab870", func := "grommet/grommetlaw10.SlotBack", spec := "slotBack", unfollowed := true, recurses := true, named := ["grommet/layout.least"], apart := false, laid := [("grommet/layout.least", laid_grommet_layout_least)] }
def SlotBackSaid : Prop := slotBackRow.holds Tryd.pinned (OpenSpec.ofChange slotBackSpec)

/-- ITS FALSE NEIGHBOUR: 'it returns false'. Refute it at one input. -/
def slotBackWrong : ChangeSpec := { name := "slotBack", fn := fun _ => fun
  | [d1, d2, d3, d4, d5] => { results := [.lit (.bool false)], args := [d1, d2, d3, d4, d5] }
  | _ => none }
def SlotBackWrongFalsely : Prop := slotBackRow.holds Tryd.pinned (OpenSpec.ofChange slotBackWrong)

/-- 'grommetlaw10.SlotWipes': WHATEVER THE INPUT: true; the input reads as it did. -/
def slotWipesSpec : ChangeSpec := { name := "slotWipes", fn := fun _ => fun
  | [d1, d2] => { results := [.lit (.bool true)], args := [d1, d2] }
  | _ => none }
def slotWipesRow : OpenClaim := { program := "ythimamnblklkbaadoor", sum := "358060462ae485b30cb51cab556cff43ed20c4e4e6e2906424dca856392ab870", func := "grommet/grommetlaw10.SlotWipes", spec := "slotWipes", unfollowed := true, recurses := true, named := ["grommet/layout.least"], apart := false, laid := [("grommet/layout.least", laid_grommet_layout_least)] }
def SlotWipesSaid : Prop := slotWipesRow.holds Tryd.pinned (OpenSpec.ofChange slotWipesSpec)

/-- ITS FALSE NEIGHBOUR: 'it returns false'. Refute it at one input. -/
def slotWipesWrong : ChangeSpec := { name := "slotWipes", fn := fun _ => fun
  | [d1, d2] => { results := [.lit (.bool false)], args := [d1, d2] }
  | _ => none }
def SlotWipesWrongFalsely : Prop := slotWipesRow.holds Tryd.pinned (OpenSpec.ofChange slotWipesWrong)

/-- 'grommetlaw10.SlotHeads': WHATEVER THE INPUT: true; the input reads as it did. -/
def slotHeadsSpec : ChangeSpec := { name := "slotHeads", fn := fun _ => fun
  | [d1, d2, d3, d4] => { results := [.lit (.bool true)], args := [d1, d2, d3, d4] }
  | _ => none }
def slotHeadsRow : OpenClaim := { program := "ythimamnblklkbaadoor", sum := "358060462ae485b30cb51cab556cff43ed20c4e4e6e2906424dca856392ab870", func := "grommet/grommetlaw10.SlotHeads", spec := "slotHeads", unfollowed := true, recurses := true, named := ["grommet/layout.least"], apart := false, laid := [("grommet/layout.least", laid_grommet_layout_least)] }
def SlotHeadsSaid : Prop := slotHeadsRow.holds Tryd.pinned (OpenSpec.ofChange slotHeadsSpec)

/-- ITS FALSE NEIGHBOUR: 'it returns false'. Refute it at one input. -/
def slotHeadsWrong : ChangeSpec := { name := "slotHeads", fn := fun _ => fun
  | [d1, d2, d3, d4] => { results := [.lit (.bool false)], args := [d1, d2, d3, d4] }
  | _ => none }
def SlotHeadsWrongFalsely : Prop := slotHeadsRow.holds Tryd.pinned (OpenSpec.ofChange slotHeadsWrong)

/-- 'grommetlaw07.AllocNil': WHATEVER THE INPUT: true; the input reads as it did. -/
def allocNilSpec : ChangeSpec := { name := "allocNil", fn := fun _ => fun
  | [d1, d2] => { results := [.lit (.bool true)], args := [d1, d2] }
  | _ => none }
def allocNilRow : OpenClaim := { program := "ythimamnblklkbaadoor", sum := "358060462ae485b30cb51cab556cff43ed20c4e4e6e2906424dca856392ab870", func := "grommet/grommetlaw07.AllocNil", spec := "allocNil", unfollowed := true, recurses := true, named := ["math/bits.deBruijn64tab"], apart := false, laid := [("math/bits.deBruijn64tab", laid_math_bits_deBruijn64tab)] }
def AllocNilSaid : Prop := allocNilRow.holds Tryd.pinned (OpenSpec.ofChange allocNilSpec)

/-- ITS FALSE NEIGHBOUR: 'it returns false'. Refute it at one input. -/
def allocNilWrong : ChangeSpec := { name := "allocNil", fn := fun _ => fun
  | [d1, d2] => { results := [.lit (.bool false)], args := [d1, d2] }
  | _ => none }
def AllocNilWrongFalsely : Prop := allocNilRow.holds Tryd.pinned (OpenSpec.ofChange allocNilWrong)

/-- 'grommetlaw11.ClassWindow': WHATEVER THE INPUT: true; the input reads as it did. -/
def classWindowSpec : ChangeSpec := { name := "classWindow", fn := fun _ => fun
  | [d1, d2, d3, d4] => { results := [.lit (.bool true)], args := [d1, d2, d3, d4] }
  | _ => none }
def classWindowRow : OpenClaim := { program := "ythimamnblklkbaadoor", sum := "358060462ae485b30cb51cab556cff43ed20c4e4e6e2906424dca856392ab870", func := "grommet/grommetlaw11.ClassWindow", spec := "classWindow", unfollowed := true, recurses := true, named := ["grommet/layout.least"], apart := false, laid := [("grommet/layout.least", laid_grommet_layout_least)] }
def ClassWindowSaid : Prop := classWindowRow.holds Tryd.pinned (OpenSpec.ofChange classWindowSpec)

/-- ITS FALSE NEIGHBOUR: 'it returns false'. Refute it at one input. -/
def classWindowWrong : ChangeSpec := { name := "classWindow", fn := fun _ => fun
  | [d1, d2, d3, d4] => { results := [.lit (.bool false)], args := [d1, d2, d3, d4] }
  | _ => none }
def ClassWindowWrongFalsely : Prop := classWindowRow.holds Tryd.pinned (OpenSpec.ofChange classWindowWrong)

/-- 'grommetlaw11.ClassPlays': WHATEVER THE INPUT: true; the input reads as it did. -/
def classPlaysSpec : ChangeSpec := { name := "classPlays", fn := fun _ => fun
  | [d1, d2, d3] => { results := [.lit (.bool true)], args := [d1, d2, d3] }
  | _ => none }
def classPlaysRow : OpenClaim := { program := "ythimamnblklkbaadoor", sum := "358060462ae485b30cb51cab556cff43ed20c4e4e6e2906424dca856392ab870", func := "grommet/grommetlaw11.ClassPlays", spec := "classPlays", unfollowed := true, recurses := true, named := ["grommet/layout.least"], apart := false, laid := [("grommet/layout.least", laid_grommet_layout_least)] }
def ClassPlaysSaid : Prop := classPlaysRow.holds Tryd.pinned (OpenSpec.ofChange classPlaysSpec)

/-- ITS FALSE NEIGHBOUR: 'it returns false'. Refute it at one input. -/
def classPlaysWrong : ChangeSpec := { name := "classPlays", fn := fun _ => fun
  | [d1, d2, d3] => { results := [.lit (.bool false)], args := [d1, d2, d3] }
  | _ => none }
def ClassPlaysWrongFalsely : Prop := classPlaysRow.holds Tryd.pinned (OpenSpec.ofChange classPlaysWrong)

/-- 'grommetlaw07.AllocLeast': WHATEVER THE INPUT: true; the input reads as it did. -/
def allocLeastSpec : ChangeSpec := { name := "allocLeast", fn := fun _ => fun
  | [d1, d2] => { results := [.lit (.bool true)], args := [d1, d2] }
  | _ => none }
def allocLeastRow : OpenClaim := { program := "ythimamnblklkbaadoor", sum := "358060462ae485b30cb51cab556cff43ed20c4e4e6e2906424dca856392ab870", func := "grommet/grommetlaw07.AllocLeast", spec := "allocLeast", unfollowed := true, recurses := true, named := ["math/bits.deBruijn64tab"], apart := false, laid := [("math/bits.deBruijn64tab", laid_math_bits_deBruijn64tab)] }
def AllocLeastSaid : Prop := allocLeastRow.holds Tryd.pinned (OpenSpec.ofChange allocLeastSpec)

/-- ITS FALSE NEIGHBOUR: 'it returns false'. Refute it at one input. -/
def allocLeastWrong : ChangeSpec := { name := "allocLeast", fn := fun _ => fun
  | [d1, d2] => { results := [.lit (.bool false)], args := [d1, d2] }
  | _ => none }
def AllocLeastWrongFalsely : Prop := allocLeastRow.holds Tryd.pinned (OpenSpec.ofChange allocLeastWrong)

/-- 'grommetlaw11.ClassOpens': WHATEVER THE INPUT: true; the input reads as it did. -/
def classOpensSpec : ChangeSpec := { name := "classOpens", fn := fun _ => fun
  | [d1, d2, d3] => { results := [.lit (.bool true)], args := [d1, d2, d3] }
  | _ => none }
def classOpensRow : OpenClaim := { program := "ythimamnblklkbaadoor", sum := "358060462ae485b30cb51cab556cff43ed20c4e4e6e2906424dca856392ab870", func := "grommet/grommetlaw11.ClassOpens", spec := "classOpens", unfollowed := true, recurses := true, named := ["grommet/layout.least"], apart := false, laid := [("grommet/layout.least", laid_grommet_layout_least)] }
def ClassOpensSaid : Prop := classOpensRow.holds Tryd.pinned (OpenSpec.ofChange classOpensSpec)

/-- ITS FALSE NEIGHBOUR: 'it returns false'. Refute it at one input. -/
def classOpensWrong : ChangeSpec := { name := "classOpens", fn := fun _ => fun
  | [d1, d2, d3] => { results := [.lit (.bool false)], args := [d1, d2, d3] }
  | _ => none }
def ClassOpensWrongFalsely : Prop := classOpensRow.holds Tryd.pinned (OpenSpec.ofChange classOpensWrong)

/-- 'grommetlaw07.AllocRefused': WHATEVER THE INPUT: true; the input reads as it did. -/
def allocRefusedSpec : ChangeSpec := { name := "allocRefused", fn := fun _ => fun
  | [d1, d2] => { results := [.lit (.bool true)], args := [d1, d2] }
  | _ => none }
def allocRefusedRow : OpenClaim := { program := "ythimamnblklkbaadoor", sum := "358060462ae485b30cb51cab556cff43ed20c4e4e6e2906424dca856392ab870", func := "grommet/grommetlaw07.AllocRefused", spec := "allocRefused", unfollowed := true, recurses := true, named := ["math/bits.deBruijn64tab"], apart := false, laid := [("math/bits.deBruijn64tab", laid_math_bits_deBruijn64tab)] }
def AllocRefusedSaid : Prop := allocRefusedRow.holds Tryd.pinned (OpenSpec.ofChange allocRefusedSpec)

/-- ITS FALSE NEIGHBOUR: 'it returns false'. Refute it at one input. -/
def allocRefusedWrong : ChangeSpec := { name := "allocRefused", fn := fun _ => fun
  | [d1, d2] => { results := [.lit (.bool false)], args := [d1, d2] }
  | _ => none }
def AllocRefusedWrongFalsely : Prop := allocRefusedRow.holds Tryd.pinned (OpenSpec.ofChange allocRefusedWrong)

/-- 'grommetlaw07.AllocOnce': WHATEVER THE INPUT: true; the input reads as it did. -/
def allocOnceSpec : ChangeSpec := { name := "allocOnce", fn := fun _ => fun
  | [d1, d2, d3] => { results := [.lit (.bool true)], args := [d1, d2, d3] }
  | _ => none }
def allocOnceRow : OpenClaim := { program := "ythimamnblklkbaadoor", sum := "358060462ae485b30cb51cab556cff43ed20c4e4e6e2906424dca856392ab870", func := "grommet/grommetlaw07.AllocOnce", spec := "allocOnce", unfollowed := true, recurses := true, named := ["math/bits.deBruijn64tab"], apart := false, laid := [("math/bits.deBruijn64tab", laid_math_bits_deBruijn64tab)] }
def AllocOnceSaid : Prop := allocOnceRow.holds Tryd.pinned (OpenSpec.ofChange allocOnceSpec)

/-- ITS FALSE NEIGHBOUR: 'it returns false'. Refute it at one input. -/
def allocOnceWrong : ChangeSpec := { name := "allocOnce", fn := fun _ => fun
  | [d1, d2, d3] => { results := [.lit (.bool false)], args := [d1, d2, d3] }
  | _ => none }
def AllocOnceWrongFalsely : Prop := allocOnceRow.holds Tryd.pinned (OpenSpec.ofChange allocOnceWrong)

/-- 'grommetlaw07.AllocPlays': WHATEVER THE INPUT: true; the input reads as it did. -/
def allocPlaysSpec : ChangeSpec := { name := "allocPlays", fn := fun _ => fun
  | [d1, d2, d3, d4] => { results := [.lit (.bool true)], args := [d1, d2, d3, d4] }
  | _ => none }
def allocPlaysRow : OpenClaim := { program := "ythimamnblklkbaadoor", sum := "358060462ae485b30cb51cab556cff43ed20c4e4e6e2906424dca856392ab870", func := "grommet/grommetlaw07.AllocPlays", spec := "allocPlays", unfollowed := true, recurses := true, named := ["math/bits.deBruijn64tab"], apart := false, laid := [("math/bits.deBruijn64tab", laid_math_bits_deBruijn64tab)] }
def AllocPlaysSaid : Prop := allocPlaysRow.holds Tryd.pinned (OpenSpec.ofChange allocPlaysSpec)

/-- ITS FALSE NEIGHBOUR: 'it returns false'. Refute it at one input. -/
def allocPlaysWrong : ChangeSpec := { name := "allocPlays", fn := fun _ => fun
  | [d1, d2, d3, d4] => { results := [.lit (.bool false)], args := [d1, d2, d3, d4] }
  | _ => none }
def AllocPlaysWrongFalsely : Prop := allocPlaysRow.holds Tryd.pinned (OpenSpec.ofChange allocPlaysWrong)

/-- 'grommetlaw11.ClassOnce': WHATEVER THE INPUT: true; the input reads as it did. -/
def classOnceSpec : ChangeSpec := { name := "classOnce", fn := fun _ => fun
  | [d1, d2] => { results := [.lit (.bool true)], args := [d1, d2] }
  | _ => none }
def classOnceRow : OpenClaim := { program := "ythimamnblklkbaadoor", sum := "358060462ae485b30cb51cab556cff43ed20c4e4e6e2906424dca856392ab870", func := "grommet/grommetlaw11.ClassOnce", spec := "classOnce", unfollowed := true, recurses := true, named := ["grommet/layout.least"], apart := false, laid := [("grommet/layout.least", laid_grommet_layout_least)] }
def ClassOnceSaid : Prop := classOnceRow.holds Tryd.pinned (OpenSpec.ofChange classOnceSpec)

/-- ITS FALSE NEIGHBOUR: 'it returns false'. Refute it at one input. -/
def classOnceWrong : ChangeSpec := { name := "classOnce", fn := fun _ => fun
  | [d1, d2] => { results := [.lit (.bool false)], args := [d1, d2] }
  | _ => none }
def ClassOnceWrongFalsely : Prop := classOnceRow.holds Tryd.pinned (OpenSpec.ofChange classOnceWrong)

/- THE SECOND FORM. 'bulk': how many values and letters a reading holds, each counted each time it is reached (what is shared counts as often as it is met; a slice's spare places count too). A statement '..UptoSaid' is the law's where the arguments, and the package variables that the reading takes, are together of bulk at most 1048576: NARROWER than '..Said'. Prove '..Said' where nothing that the law and all that it calls make is longer than what came in: it says more and counts as full. Else prove '..UptoSaid'. A law counts once. -/
mutual
def uptoBulk {H : Type} : DataW H → Nat
  | .lit (.string bytes) => bytes.length + 1
  | .lit _ => 1
  | .nil => 1
  | .ptr d => uptoBulk d + 1
  | .slice elems spare => uptoBulkAll elems + uptoBulkAll spare + 1
  | .agg parts => uptoBulkAll parts + 1
  | .iface _ d => uptoBulk d + 1
  | .map entries => uptoBulkEntries entries + 1
  | .held _ => 1
def uptoBulkAll {H : Type} : List (DataW H) → Nat
  | [] => 0
  | d :: r => uptoBulk d + uptoBulkAll r
def uptoBulkEntries {H : Type} : List (Lit × DataW H) → Nat
  | [] => 0
  | x :: r => uptoBulkEntry x + uptoBulkEntries r
def uptoBulkEntry {H : Type} : Lit × DataW H → Nat
  | (.string bytes, d) => bytes.length + uptoBulk d + 1
  | (_, d) => uptoBulk d + 1
 end
def uptoSmall : (H : Type) → List (DataW H) → Bool := fun _ ds => decide (uptoBulkAll ds ≤ 1048576)
def OpenSpec.upto (s : _root_.Go.ChangeSpec) : _root_.Go.OpenSpec := { _root_.Go.OpenSpec.ofChange s with cond := some uptoSmall }

/-- 'grommetlaw06.BitmapNil', WHERE WHAT IT READS IS OF BULK AT MOST 1048576: true; the input reads as it did. -/
def bitmapNilUptoRow : OpenClaim := { program := "ythimamnblklkbaadoor", sum := "358060462ae485b30cb51cab556cff43ed20c4e4e6e2906424dca856392ab870", func := "grommet/grommetlaw06.BitmapNil", spec := "bitmapNil", unfollowed := true, recurses := true, named := ["math/bits.deBruijn64tab"], apart := false, laid := [("math/bits.deBruijn64tab", laid_math_bits_deBruijn64tab)], narrowed := true }
def BitmapNilUptoSaid : Prop := bitmapNilUptoRow.holds Tryd.pinned (OpenSpec.upto bitmapNilSpec)

/-- 'grommetlaw06.BitmapTwo', WHERE WHAT IT READS IS OF BULK AT MOST 1048576: true; the input reads as it did. -/
def bitmapTwoUptoRow : OpenClaim := { program := "ythimamnblklkbaadoor", sum := "358060462ae485b30cb51cab556cff43ed20c4e4e6e2906424dca856392ab870", func := "grommet/grommetlaw06.BitmapTwo", spec := "bitmapTwo", unfollowed := true, recurses := true, named := ["math/bits.deBruijn64tab"], apart := false, laid := [("math/bits.deBruijn64tab", laid_math_bits_deBruijn64tab)], narrowed := true }
def BitmapTwoUptoSaid : Prop := bitmapTwoUptoRow.holds Tryd.pinned (OpenSpec.upto bitmapTwoSpec)

/-- 'grommetlaw06.BitmapFills', WHERE WHAT IT READS IS OF BULK AT MOST 1048576: true; the input reads as it did. -/
def bitmapFillsUptoRow : OpenClaim := { program := "ythimamnblklkbaadoor", sum := "358060462ae485b30cb51cab556cff43ed20c4e4e6e2906424dca856392ab870", func := "grommet/grommetlaw06.BitmapFills", spec := "bitmapFills", unfollowed := true, recurses := true, named := ["math/bits.deBruijn64tab"], apart := false, laid := [("math/bits.deBruijn64tab", laid_math_bits_deBruijn64tab)], narrowed := true }
def BitmapFillsUptoSaid : Prop := bitmapFillsUptoRow.holds Tryd.pinned (OpenSpec.upto bitmapFillsSpec)

/-- 'grommetlaw06.BitmapOne', WHERE WHAT IT READS IS OF BULK AT MOST 1048576: true; the input reads as it did. -/
def bitmapOneUptoRow : OpenClaim := { program := "ythimamnblklkbaadoor", sum := "358060462ae485b30cb51cab556cff43ed20c4e4e6e2906424dca856392ab870", func := "grommet/grommetlaw06.BitmapOne", spec := "bitmapOne", unfollowed := true, recurses := true, named := ["math/bits.deBruijn64tab"], apart := false, laid := [("math/bits.deBruijn64tab", laid_math_bits_deBruijn64tab)], narrowed := true }
def BitmapOneUptoSaid : Prop := bitmapOneUptoRow.holds Tryd.pinned (OpenSpec.upto bitmapOneSpec)

/-- 'grommetlaw10.SlotNil', WHERE WHAT IT READS IS OF BULK AT MOST 1048576: true; the input reads as it did. -/
def slotNilUptoRow : OpenClaim := { program := "ythimamnblklkbaadoor", sum := "358060462ae485b30cb51cab556cff43ed20c4e4e6e2906424dca856392ab870", func := "grommet/grommetlaw10.SlotNil", spec := "slotNil", unfollowed := true, recurses := true, named := ["grommet/layout.least"], apart := false, laid := [("grommet/layout.least", laid_grommet_layout_least)], narrowed := true }
def SlotNilUptoSaid : Prop := slotNilUptoRow.holds Tryd.pinned (OpenSpec.upto slotNilSpec)

/-- 'grommetlaw10.SlotPlays', WHERE WHAT IT READS IS OF BULK AT MOST 1048576: true; the input reads as it did. -/
def slotPlaysUptoRow : OpenClaim := { program := "ythimamnblklkbaadoor", sum := "358060462ae485b30cb51cab556cff43ed20c4e4e6e2906424dca856392ab870", func := "grommet/grommetlaw10.SlotPlays", spec := "slotPlays", unfollowed := true, recurses := true, named := ["grommet/layout.least"], apart := false, laid := [("grommet/layout.least", laid_grommet_layout_least)], narrowed := true }
def SlotPlaysUptoSaid : Prop := slotPlaysUptoRow.holds Tryd.pinned (OpenSpec.upto slotPlaysSpec)

/-- 'grommetlaw10.SlotBack', WHERE WHAT IT READS IS OF BULK AT MOST 1048576: true; the input reads as it did. -/
def slotBackUptoRow : OpenClaim := { program := "ythimamnblklkbaadoor", sum := "358060462ae485b30cb51cab556cff43ed20c4e4e6e2906424dca856392ab870", func := "grommet/grommetlaw10.SlotBack", spec := "slotBack", unfollowed := true, recurses := true, named := ["grommet/layout.least"], apart := false, laid := [("grommet/layout.least", laid_grommet_layout_least)], narrowed := true }
def SlotBackUptoSaid : Prop := slotBackUptoRow.holds Tryd.pinned (OpenSpec.upto slotBackSpec)

/-- 'grommetlaw10.SlotWipes', WHERE WHAT IT READS IS OF BULK AT MOST 1048576: true; the input reads as it did. -/
def slotWipesUptoRow : OpenClaim := { program := "ythimamnblklkbaadoor", sum := "358060462ae485b30cb51cab556cff43ed20c4e4e6e2906424dca856392ab870", func := "grommet/grommetlaw10.SlotWipes", spec := "slotWipes", unfollowed := true, recurses := true, named := ["grommet/layout.least"], apart := false, laid := [("grommet/layout.least", laid_grommet_layout_least)], narrowed := true }
def SlotWipesUptoSaid : Prop := slotWipesUptoRow.holds Tryd.pinned (OpenSpec.upto slotWipesSpec)

/-- 'grommetlaw10.SlotHeads', WHERE WHAT IT READS IS OF BULK AT MOST 1048576: true; the input reads as it did. -/
def slotHeadsUptoRow : OpenClaim := { program := "ythimamnblklkbaadoor", sum := "358060462ae485b30cb51cab556cff43ed20c4e4e6e2906424dca856392ab870", func := "grommet/grommetlaw10.SlotHeads", spec := "slotHeads", unfollowed := true, recurses := true, named := ["grommet/layout.least"], apart := false, laid := [("grommet/layout.least", laid_grommet_layout_least)], narrowed := true }
def SlotHeadsUptoSaid : Prop := slotHeadsUptoRow.holds Tryd.pinned (OpenSpec.upto slotHeadsSpec)

/-- 'grommetlaw07.AllocNil', WHERE WHAT IT READS IS OF BULK AT MOST 1048576: true; the input reads as it did. -/
def allocNilUptoRow : OpenClaim := { program := "ythimamnblklkbaadoor", sum := "358060462ae485b30cb51cab556cff43ed20c4e4e6e2906424dca856392ab870", func := "grommet/grommetlaw07.AllocNil", spec := "allocNil", unfollowed := true, recurses := true, named := ["math/bits.deBruijn64tab"], apart := false, laid := [("math/bits.deBruijn64tab", laid_math_bits_deBruijn64tab)], narrowed := true }
def AllocNilUptoSaid : Prop := allocNilUptoRow.holds Tryd.pinned (OpenSpec.upto allocNilSpec)

/-- 'grommetlaw11.ClassWindow', WHERE WHAT IT READS IS OF BULK AT MOST 1048576: true; the input reads as it did. -/
def classWindowUptoRow : OpenClaim := { program := "ythimamnblklkbaadoor", sum := "358060462ae485b30cb51cab556cff43ed20c4e4e6e2906424dca856392ab870", func := "grommet/grommetlaw11.ClassWindow", spec := "classWindow", unfollowed := true, recurses := true, named := ["grommet/layout.least"], apart := false, laid := [("grommet/layout.least", laid_grommet_layout_least)], narrowed := true }
def ClassWindowUptoSaid : Prop := classWindowUptoRow.holds Tryd.pinned (OpenSpec.upto classWindowSpec)

/-- 'grommetlaw11.ClassPlays', WHERE WHAT IT READS IS OF BULK AT MOST 1048576: true; the input reads as it did. -/
def classPlaysUptoRow : OpenClaim := { program := "ythimamnblklkbaadoor", sum := "358060462ae485b30cb51cab556cff43ed20c4e4e6e2906424dca856392ab870", func := "grommet/grommetlaw11.ClassPlays", spec := "classPlays", unfollowed := true, recurses := true, named := ["grommet/layout.least"], apart := false, laid := [("grommet/layout.least", laid_grommet_layout_least)], narrowed := true }
def ClassPlaysUptoSaid : Prop := classPlaysUptoRow.holds Tryd.pinned (OpenSpec.upto classPlaysSpec)

/-- 'grommetlaw07.AllocLeast', WHERE WHAT IT READS IS OF BULK AT MOST 1048576: true; the input reads as it did. -/
def allocLeastUptoRow : OpenClaim := { program := "ythimamnblklkbaadoor", sum := "358060462ae485b30cb51cab556cff43ed20c4e4e6e2906424dca856392ab870", func := "grommet/grommetlaw07.AllocLeast", spec := "allocLeast", unfollowed := true, recurses := true, named := ["math/bits.deBruijn64tab"], apart := false, laid := [("math/bits.deBruijn64tab", laid_math_bits_deBruijn64tab)], narrowed := true }
def AllocLeastUptoSaid : Prop := allocLeastUptoRow.holds Tryd.pinned (OpenSpec.upto allocLeastSpec)

/-- 'grommetlaw11.ClassOpens', WHERE WHAT IT READS IS OF BULK AT MOST 1048576: true; the input reads as it did. -/
def classOpensUptoRow : OpenClaim := { program := "ythimamnblklkbaadoor", sum := "358060462ae485b30cb51cab556cff43ed20c4e4e6e2906424dca856392ab870", func := "grommet/grommetlaw11.ClassOpens", spec := "classOpens", unfollowed := true, recurses := true, named := ["grommet/layout.least"], apart := false, laid := [("grommet/layout.least", laid_grommet_layout_least)], narrowed := true }
def ClassOpensUptoSaid : Prop := classOpensUptoRow.holds Tryd.pinned (OpenSpec.upto classOpensSpec)

/-- 'grommetlaw07.AllocRefused', WHERE WHAT IT READS IS OF BULK AT MOST 1048576: true; the input reads as it did. -/
def allocRefusedUptoRow : OpenClaim := { program := "ythimamnblklkbaadoor", sum := "358060462ae485b30cb51cab556cff43ed20c4e4e6e2906424dca856392ab870", func := "grommet/grommetlaw07.AllocRefused", spec := "allocRefused", unfollowed := true, recurses := true, named := ["math/bits.deBruijn64tab"], apart := false, laid := [("math/bits.deBruijn64tab", laid_math_bits_deBruijn64tab)], narrowed := true }
def AllocRefusedUptoSaid : Prop := allocRefusedUptoRow.holds Tryd.pinned (OpenSpec.upto allocRefusedSpec)

/-- 'grommetlaw07.AllocOnce', WHERE WHAT IT READS IS OF BULK AT MOST 1048576: true; the input reads as it did. -/
def allocOnceUptoRow : OpenClaim := { program := "ythimamnblklkbaadoor", sum := "358060462ae485b30cb51cab556cff43ed20c4e4e6e2906424dca856392ab870", func := "grommet/grommetlaw07.AllocOnce", spec := "allocOnce", unfollowed := true, recurses := true, named := ["math/bits.deBruijn64tab"], apart := false, laid := [("math/bits.deBruijn64tab", laid_math_bits_deBruijn64tab)], narrowed := true }
def AllocOnceUptoSaid : Prop := allocOnceUptoRow.holds Tryd.pinned (OpenSpec.upto allocOnceSpec)

/-- 'grommetlaw07.AllocPlays', WHERE WHAT IT READS IS OF BULK AT MOST 1048576: true; the input reads as it did. -/
def allocPlaysUptoRow : OpenClaim := { program := "ythimamnblklkbaadoor", sum := "358060462ae485b30cb51cab556cff43ed20c4e4e6e2906424dca856392ab870", func := "grommet/grommetlaw07.AllocPlays", spec := "allocPlays", unfollowed := true, recurses := true, named := ["math/bits.deBruijn64tab"], apart := false, laid := [("math/bits.deBruijn64tab", laid_math_bits_deBruijn64tab)], narrowed := true }
def AllocPlaysUptoSaid : Prop := allocPlaysUptoRow.holds Tryd.pinned (OpenSpec.upto allocPlaysSpec)

/-- 'grommetlaw11.ClassOnce', WHERE WHAT IT READS IS OF BULK AT MOST 1048576: true; the input reads as it did. -/
def classOnceUptoRow : OpenClaim := { program := "ythimamnblklkbaadoor", sum := "358060462ae485b30cb51cab556cff43ed20c4e4e6e2906424dca856392ab870", func := "grommet/grommetlaw11.ClassOnce", spec := "classOnce", unfollowed := true, recurses := true, named := ["grommet/layout.least"], apart := false, laid := [("grommet/layout.least", laid_grommet_layout_least)], narrowed := true }
def ClassOnceUptoSaid : Prop := classOnceUptoRow.holds Tryd.pinned (OpenSpec.upto classOnceSpec)

end Rows
end Go.Proofs.YthimamnblklkbaaDoor
