/-
  NARROWER THAN 'FOR EVERY INPUT', by the rows' own cells (each row's printed sentence says how): BlocksNil: laid · BlocksApart: laid · BlocksBack: laid · BlocksOnce: laid · DataNil: laid · DataHolds: laid · DataCounts: laid · DataParts: laid.
  DERIVED. THE GIVEN ROWS OF THIS SEAT. 8 by the template 'for every input the law returns true; each argument reads behind the call as it read before'; 0 by the template 'total and deterministic' (their statements: YtmmclabkkigiaaaDoorTotals.lean).
  GIVEN WITH THE SEED: the statements are not yours to turn. If you find one false, say at which input.
  Laid BY PROGRAM, IN A SANDBOX (cutbox-rows.mjs): the forced cells as the released guide's own fill.sh prints them over the translation 0ede9aebab3780cc… (all of the seat's roots in one cut). By AI agents, Wed Nov 11 2026. No macro, syntax, notation, axiom, sorry.
-/
import Derived.Test.YtmmclabkkigiaaaDoorChecked
import GoSem.Claim
import GoSem.ClaimJoined
import GoSem.ClaimMapViews
import Derived.JoinedTies
import Derived.KernelRfl
namespace Go.Proofs.YtmmclabkkigiaaaDoor
/- THE CELL 'sum', in the pinned program and in every row, IS THE sha256 OF THE DUMP (.gsa) THAT YtmmclabkkigiaaaDoorProg.lean LOADS. Nothing in Lean hashes anything: it is a label: what it is worth is what the hold of that sum in a sandbox is worth. -/
noncomputable def Tryd.pinned : Pinned := { name := "ytmmclabkkigiaaadoor", sum := "0ede9aebab3780ccfd0efa7c0e0d657afb2967530d6b2f8acd3ab5f703526849", checked := Tryd.checked }
namespace Rows
def none {H : Type} : Left H := { results := [], args := [] }

/- WHAT THE LISTED PACKAGE-LEVEL VARIABLES READ AS WHEN THE CALL BEGINS. Each datum BY PROGRAM (the guide's laid-datum.mjs) off the statement by which the dump's own 'gosem.cut.vars' lays the variable. In a bare row this is a premise. The card (YtmmclabkkigiaaaDoorCards.lean) ties it to the program's text. -/
def laid_math_bits_deBruijn64tab {H : Type} : DataW H := .agg [.lit (.int .u8 0), .lit (.int .u8 1), .lit (.int .u8 56), .lit (.int .u8 2), .lit (.int .u8 57), .lit (.int .u8 49), .lit (.int .u8 28), .lit (.int .u8 3), .lit (.int .u8 61), .lit (.int .u8 58), .lit (.int .u8 42), .lit (.int .u8 50), .lit (.int .u8 38), .lit (.int .u8 29), .lit (.int .u8 17), .lit (.int .u8 4), .lit (.int .u8 62), .lit (.int .u8 47), .lit (.int .u8 59), .lit (.int .u8 36), .lit (.int .u8 45), .lit (.int .u8 43), .lit (.int .u8 51), .lit (.int .u8 22), .lit (.int .u8 53), .lit (.int .u8 39), .lit (.int .u8 33), .lit (.int .u8 30), .lit (.int .u8 24), .lit (.int .u8 18), .lit (.int .u8 12), .lit (.int .u8 5), .lit (.int .u8 63), .lit (.int .u8 55), .lit (.int .u8 48), .lit (.int .u8 27), .lit (.int .u8 60), .lit (.int .u8 41), .lit (.int .u8 37), .lit (.int .u8 16), .lit (.int .u8 46), .lit (.int .u8 35), .lit (.int .u8 44), .lit (.int .u8 21), .lit (.int .u8 52), .lit (.int .u8 32), .lit (.int .u8 23), .lit (.int .u8 11), .lit (.int .u8 54), .lit (.int .u8 26), .lit (.int .u8 40), .lit (.int .u8 15), .lit (.int .u8 34), .lit (.int .u8 20), .lit (.int .u8 31), .lit (.int .u8 10), .lit (.int .u8 25), .lit (.int .u8 14), .lit (.int .u8 19), .lit (.int .u8 9), .lit (.int .u8 13), .lit (.int .u8 8), .lit (.int .u8 7), .lit (.int .u8 6)]

/-- 'grommetlaw13.BlocksNil': WHATEVER THE INPUT: true; the input reads as it did. -/
def blocksNilSpec : ChangeSpec := { name := "blocksNil", fn := fun _ => fun
  | [d1, d2, d3] => { results := [.lit (.bool true)], args := [d1, d2, d3] }
  | _ => none }
def blocksNilRow : OpenClaim := { program := "ytmmclabkkigiaaadoor", sum := "0ede9aebab3780ccfd0efa7c0e0d657afb2967530d6b2f8acd3ab5f703526849", func := "grommet/grommetlaw13.BlocksNil", spec := "blocksNil", unfollowed := true, recurses := true, named := ["math/bits.deBruijn64tab"], apart := false, laid := [("math/bits.deBruijn64tab", laid_math_bits_deBruijn64tab)] }
def BlocksNilSaid : Prop := blocksNilRow.holds Tryd.pinned (OpenSpec.ofChange blocksNilSpec)

/-- ITS FALSE NEIGHBOUR: 'it returns false'. Refute it at one input. -/
def blocksNilWrong : ChangeSpec := { name := "blocksNil", fn := fun _ => fun
  | [d1, d2, d3] => { results := [.lit (.bool false)], args := [d1, d2, d3] }
  | _ => none }
def BlocksNilWrongFalsely : Prop := blocksNilRow.holds Tryd.pinned (OpenSpec.ofChange blocksNilWrong)

/-- 'grommetlaw13.BlocksApart': WHATEVER THE INPUT: true; the input reads as it did. -/
def blocksApartSpec : ChangeSpec := { name := "blocksApart", fn := fun _ => fun
  | [d1, d2] => { results := [.lit (.bool true)], args := [d1, d2] }
  | _ => none }
def blocksApartRow : OpenClaim := { program := "ytmmclabkkigiaaadoor", sum := "0ede9aebab3780ccfd0efa7c0e0d657afb2967530d6b2f8acd3ab5f703526849", func := "grommet/grommetlaw13.BlocksApart", spec := "blocksApart", unfollowed := true, recurses := true, named := ["math/bits.deBruijn64tab"], apart := false, laid := [("math/bits.deBruijn64tab", laid_math_bits_deBruijn64tab)] }
def BlocksApartSaid : Prop := blocksApartRow.holds Tryd.pinned (OpenSpec.ofChange blocksApartSpec)

/-- ITS FALSE NEIGHBOUR: 'it returns false'. Refute it at one input. -/
def blocksApartWrong : ChangeSpec := { name := "blocksApart", fn := fun _ => fun
  | [d1, d2] => { results := [.lit (.bool false)], args := [d1, d2] }
  | _ => none }
def BlocksApartWrongFalsely : Prop := blocksApartRow.holds Tryd.pinned (OpenSpec.ofChange blocksApartWrong)

/-- 'grommetlaw13.BlocksBack': WHATEVER THE INPUT: true; the input reads as it did. -/
def blocksBackSpec : ChangeSpec := { name := "blocksBack", fn := fun _ => fun
  | [d1, d2] => { results := [.lit (.bool true)], args := [d1, d2] }
  | _ => none }
def blocksBackRow : OpenClaim := { program := "ytmmclabkkigiaaadoor", sum := "0ede9aebab3780ccfd0efa7c0e0d657afb2967530d6b2f8acd3ab5f703526849", func := "grommet/grommetlaw13.BlocksBack", spec := "blocksBack", unfollowed := true, recurses := true, named := ["math/bits.deBruijn64tab"], apart := false, laid := [("math/bits.deBruijn64tab", laid_math_bits_deBruijn64tab)] }
def BlocksBackSaid : Prop := blocksBackRow.holds Tryd.pinned (OpenSpec.ofChange blocksBackSpec)

/-- ITS FALSE NEIGHBOUR: 'it returns false'. Refute it at one input. -/
def blocksBackWrong : ChangeSpec := { name := "blocksBack", fn := fun _ => fun
  | [d1, d2] => { results := [.lit (.bool false)], args := [d1, d2] }
  | _ => none }
def BlocksBackWrongFalsely : Prop := blocksBackRow.holds Tryd.pinned (OpenSpec.ofChange blocksBackWrong)

/-- 'grommetlaw13.BlocksOnce': WHATEVER THE INPUT: true; the input reads as it did. -/
def blocksOnceSpec : ChangeSpec := { name := "blocksOnce", fn := fun _ => fun
  | [d1, d2] => { results := [.lit (.bool true)], args := [d1, d2] }
  | _ => none }
def blocksOnceRow : OpenClaim := { program := "ytmmclabkkigiaaadoor", sum := "0ede9aebab3780ccfd0efa7c0e0d657afb2967530d6b2f8acd3ab5f703526849", func := "grommet/grommetlaw13.BlocksOnce", spec := "blocksOnce", unfollowed := true, recurses := true, named := ["math/bits.deBruijn64tab"], apart := false, laid := [("math/bits.deBruijn64tab", laid_math_bits_deBruijn64tab)] }
def BlocksOnceSaid : Prop := blocksOnceRow.holds Tryd.pinned (OpenSpec.ofChange blocksOnceSpec)

/-- ITS FALSE NEIGHBOUR: 'it returns false'. Refute it at one input. -/
def blocksOnceWrong : ChangeSpec := { name := "blocksOnce", fn := fun _ => fun
  | [d1, d2] => { results := [.lit (.bool false)], args := [d1, d2] }
  | _ => none }
def BlocksOnceWrongFalsely : Prop := blocksOnceRow.holds Tryd.pinned (OpenSpec.ofChange blocksOnceWrong)

/-- 'grommetlaw14.DataNil': WHATEVER THE INPUT: true; the input reads as it did. -/
def dataNilSpec : ChangeSpec := { name := "dataNil", fn := fun _ => fun
  | [d1, d2, d3, d4] => { results := [.lit (.bool true)], args := [d1, d2, d3, d4] }
  | _ => none }
def dataNilRow : OpenClaim := { program := "ytmmclabkkigiaaadoor", sum := "0ede9aebab3780ccfd0efa7c0e0d657afb2967530d6b2f8acd3ab5f703526849", func := "grommet/grommetlaw14.DataNil", spec := "dataNil", unfollowed := true, recurses := true, named := ["math/bits.deBruijn64tab"], apart := false, laid := [("math/bits.deBruijn64tab", laid_math_bits_deBruijn64tab)] }
def DataNilSaid : Prop := dataNilRow.holds Tryd.pinned (OpenSpec.ofChange dataNilSpec)

/-- ITS FALSE NEIGHBOUR: 'it returns false'. Refute it at one input. -/
def dataNilWrong : ChangeSpec := { name := "dataNil", fn := fun _ => fun
  | [d1, d2, d3, d4] => { results := [.lit (.bool false)], args := [d1, d2, d3, d4] }
  | _ => none }
def DataNilWrongFalsely : Prop := dataNilRow.holds Tryd.pinned (OpenSpec.ofChange dataNilWrong)

/-- 'grommetlaw14.DataHolds': WHATEVER THE INPUT: true; the input reads as it did. -/
def dataHoldsSpec : ChangeSpec := { name := "dataHolds", fn := fun _ => fun
  | [d1, d2] => { results := [.lit (.bool true)], args := [d1, d2] }
  | _ => none }
def dataHoldsRow : OpenClaim := { program := "ytmmclabkkigiaaadoor", sum := "0ede9aebab3780ccfd0efa7c0e0d657afb2967530d6b2f8acd3ab5f703526849", func := "grommet/grommetlaw14.DataHolds", spec := "dataHolds", unfollowed := true, recurses := true, named := ["math/bits.deBruijn64tab"], apart := false, laid := [("math/bits.deBruijn64tab", laid_math_bits_deBruijn64tab)] }
def DataHoldsSaid : Prop := dataHoldsRow.holds Tryd.pinned (OpenSpec.ofChange dataHoldsSpec)

/-- ITS FALSE NEIGHBOUR: 'it returns false'. Refute it at one input. -/
def dataHoldsWrong : ChangeSpec := { name := "dataHolds", fn := fun _ => fun
  | [d1, d2] => { results := [.lit (.bool false)], args := [d1, d2] }
  | _ => none }
def DataHoldsWrongFalsely : Prop := dataHoldsRow.holds Tryd.pinned (OpenSpec.ofChange dataHoldsWrong)

/-- 'grommetlaw14.DataCounts': WHATEVER THE INPUT: true; the input reads as it did. -/
def dataCountsSpec : ChangeSpec := { name := "dataCounts", fn := fun _ => fun
  | [d1, d2] => { results := [.lit (.bool true)], args := [d1, d2] }
  | _ => none }
def dataCountsRow : OpenClaim := { program := "ytmmclabkkigiaaadoor", sum := "0ede9aebab3780ccfd0efa7c0e0d657afb2967530d6b2f8acd3ab5f703526849", func := "grommet/grommetlaw14.DataCounts", spec := "dataCounts", unfollowed := true, recurses := true, named := ["math/bits.deBruijn64tab"], apart := false, laid := [("math/bits.deBruijn64tab", laid_math_bits_deBruijn64tab)] }
def DataCountsSaid : Prop := dataCountsRow.holds Tryd.pinned (OpenSpec.ofChange dataCountsSpec)

/-- ITS FALSE NEIGHBOUR: 'it returns false'. Refute it at one input. -/
def dataCountsWrong : ChangeSpec := { name := "dataCounts", fn := fun _ => fun
  | [d1, d2] => { results := [.lit (.bool false)], args := [d1, d2] }
  | _ => none }
def DataCountsWrongFalsely : Prop := dataCountsRow.holds Tryd.pinned (OpenSpec.ofChange dataCountsWrong)

/-- 'grommetlaw14.DataParts': WHATEVER THE INPUT: true; the input reads as it did. -/
def dataPartsSpec : ChangeSpec := { name := "dataParts", fn := fun _ => fun
  | [d1, d2, d3, d4, d5] => { results := [.lit (.bool true)], args := [d1, d2, d3, d4, d5] }
  | _ => none }
def dataPartsRow : OpenClaim := { program := "ytmmclabkkigiaaadoor", sum := "0ede9aebab3780ccfd0efa7c0e0d657afb2967530d6b2f8acd3ab5f703526849", func := "grommet/grommetlaw14.DataParts", spec := "dataParts", unfollowed := true, recurses := true, named := ["math/bits.deBruijn64tab"], apart := false, laid := [("math/bits.deBruijn64tab", laid_math_bits_deBruijn64tab)] }
def DataPartsSaid : Prop := dataPartsRow.holds Tryd.pinned (OpenSpec.ofChange dataPartsSpec)

/-- ITS FALSE NEIGHBOUR: 'it returns false'. Refute it at one input. -/
def dataPartsWrong : ChangeSpec := { name := "dataParts", fn := fun _ => fun
  | [d1, d2, d3, d4, d5] => { results := [.lit (.bool false)], args := [d1, d2, d3, d4, d5] }
  | _ => none }
def DataPartsWrongFalsely : Prop := dataPartsRow.holds Tryd.pinned (OpenSpec.ofChange dataPartsWrong)

/- THE SECOND FORM. 'bulk': how many values and letters a reading holds, each counted each time it is reached (what is shared counts as often as it is met; a slice's spare places count too). A statement '..UptoSaid' is the law's where the arguments, and the package variables that the reading takes, are together of bulk at most 1048576: NARROWER than '..Said'. Prove '..Said' where nothing that the law and all that it calls make is longer than what came in: it says more and counts as full. Else prove '..UptoSaid'. A law counts once. -/
mutual
def uptoBulk {H : Type} : DataW H → Nat
  | .lit (.string bytes) => bytes.length + 1
  | .lit _ => 1
  | .nil => 1
  | .ptr d => uptoBulk d + 1
  | .slice elems spare => uptoBulkAll elems + uptoBulkAll spare + 1
  | .agg parts => uptoBulkAll parts + 1
  | .iface _ d => uptoBulk d + 1
  | .map entries => uptoBulkEntries entries + 1
  | .held _ => 1
def uptoBulkAll {H : Type} : List (DataW H) → Nat
  | [] => 0
  | d :: r => uptoBulk d + uptoBulkAll r
def uptoBulkEntries {H : Type} : List (Lit × DataW H) → Nat
  | [] => 0
  | x :: r => uptoBulkEntry x + uptoBulkEntries r
def uptoBulkEntry {H : Type} : Lit × DataW H → Nat
  | (.string bytes, d) => bytes.length + uptoBulk d + 1
  | (_, d) => uptoBulk d + 1
 end
def uptoSmall : (H : Type) → List (DataW H) → Bool := fun _ ds => decide (uptoBulkAll ds ≤ 1048576)
def OpenSpec.upto (s : _root_.Go.ChangeSpec) : _root_.Go.OpenSpec := { _root_.Go.OpenSpec.ofChange s with cond := some uptoSmall }

/-- 'grommetlaw13.BlocksNil', WHERE WHAT IT READS IS OF BULK AT MOST 1048576: true; the input reads as it did. -/
def blocksNilUptoRow : OpenClaim := { program := "ytmmclabkkigiaaadoor", sum := "0ede9aebab3780ccfd0efa7c0e0d657afb2967530d6b2f8acd3ab5f703526849", func := "grommet/grommetlaw13.BlocksNil", spec := "blocksNil", unfollowed := true, recurses := true, named := ["math/bits.deBruijn64tab"], apart := false, laid := [("math/bits.deBruijn64tab", laid_math_bits_deBruijn64tab)], narrowed := true }
def BlocksNilUptoSaid : Prop := blocksNilUptoRow.holds Tryd.pinned (OpenSpec.upto blocksNilSpec)

/-- 'grommetlaw13.BlocksApart', WHERE WHAT IT READS IS OF BULK AT MOST 1048576: true; the input reads as it did. -/
def blocksApartUptoRow : OpenClaim := { program := "ytmmclabkkigiaaadoor", sum := "0ede9aebab3780ccfd0efa7c0e0d657afb2967530d6b2f8acd3ab5f703526849", func := "grommet/grommetlaw13.BlocksApart", spec := "blocksApart", unfollowed := true, recurses := true, named := ["math/bits.deBruijn64tab"], apart := false, laid := [("math/bits.deBruijn64tab", laid_math_bits_deBruijn64tab)], narrowed := true }
def BlocksApartUptoSaid : Prop := blocksApartUptoRow.holds Tryd.pinned (OpenSpec.upto blocksApartSpec)

/-- 'grommetlaw13.BlocksBack', WHERE WHAT IT READS IS OF BULK AT MOST 1048576: true; the input reads as it did. -/
def blocksBackUptoRow : OpenClaim := { program := "ytmmclabkkigiaaadoor", sum := "0ede9aebab3780ccfd0efa7c0e0d657afb2967530d6b2f8acd3ab5f703526849", func := "grommet/grommetlaw13.BlocksBack", spec := "blocksBack", unfollowed := true, recurses := true, named := ["math/bits.deBruijn64tab"], apart := false, laid := [("math/bits.deBruijn64tab", laid_math_bits_deBruijn64tab)], narrowed := true }
def BlocksBackUptoSaid : Prop := blocksBackUptoRow.holds Tryd.pinned (OpenSpec.upto blocksBackSpec)

/-- 'grommetlaw13.BlocksOnce', WHERE WHAT IT READS IS OF BULK AT MOST 1048576: true; the input reads as it did. -/
def blocksOnceUptoRow : OpenClaim := { program := "ytmmclabkkigiaaadoor", sum := "0ede9aebab3780ccfd0efa7c0e0d657afb2967530d6b2f8acd3ab5f703526849", func := "grommet/grommetlaw13.BlocksOnce", spec := "blocksOnce", unfollowed := true, recurses := true, named := ["math/bits.deBruijn64tab"], apart := false, laid := [("math/bits.deBruijn64tab", laid_math_bits_deBruijn64tab)], narrowed := true }
def BlocksOnceUptoSaid : Prop := blocksOnceUptoRow.holds Tryd.pinned (OpenSpec.upto blocksOnceSpec)

/-- 'grommetlaw14.DataNil', WHERE WHAT IT READS IS OF BULK AT MOST 1048576: true; the input reads as it did. -/
def dataNilUptoRow : OpenClaim := { program := "ytmmclabkkigiaaadoor", sum := "0ede9aebab3780ccfd0efa7c0e0d657afb2967530d6b2f8acd3ab5f703526849", func := "grommet/grommetlaw14.DataNil", spec := "dataNil", unfollowed := true, recurses := true, named := ["math/bits.deBruijn64tab"], apart := false, laid := [("math/bits.deBruijn64tab", laid_math_bits_deBruijn64tab)], narrowed := true }
def DataNilUptoSaid : Prop := dataNilUptoRow.holds Tryd.pinned (OpenSpec.upto dataNilSpec)

/-- 'grommetlaw14.DataHolds', WHERE WHAT IT READS IS OF BULK AT MOST 1048576: true; the input reads as it did. -/
def dataHoldsUptoRow : OpenClaim := { program := "ytmmclabkkigiaaadoor", sum := "0ede9aebab3780ccfd0efa7c0e0d657afb2967530d6b2f8acd3ab5f703526849", func := "grommet/grommetlaw14.DataHolds", spec := "dataHolds", unfollowed := true, recurses := true, named := ["math/bits.deBruijn64tab"], apart := false, laid := [("math/bits.deBruijn64tab", laid_math_bits_deBruijn64tab)], narrowed := true }
def DataHoldsUptoSaid : Prop := dataHoldsUptoRow.holds Tryd.pinned (OpenSpec.upto dataHoldsSpec)

/-- 'grommetlaw14.DataCounts', WHERE WHAT IT READS IS OF BULK AT MOST 1048576: true; the input reads as it did. -/
def dataCountsUptoRow : OpenClaim := { program := "ytmmclabkkigiaaadoor", sum := "0ede9aebab3780ccfd0efa7c0e0d657afb2967530d6b2f8acd3ab5f703526849", func := "grommet/grommetlaw14.DataCounts", spec := "dataCounts", unfollowed := true, recurses := true, named := ["math/bits.deBruijn64tab"], apart := false, laid := [("math/bits.deBruijn64tab", laid_math_bits_deBruijn64tab)], narrowed := true }
def DataCountsUptoSaid : Prop := dataCountsUptoRow.holds Tryd.pinned (OpenSpec.upto dataCountsSpec)

/-- 'grommetlaw14.DataParts', WHERE WHAT IT READS IS OF BULK AT MOST 1048576: true; the input reads as it did. -/
def dataPartsUptoRow : OpenClaim := { program := "ytmmclabkkigiaaadoor", sum := "0ede9aebab3780ccfd0efa7c0e0d657afb2967530d6b2f8acd3ab5f703526849", func := "grommet/grommetlaw14.DataParts", spec := "dataParts", unfollowed := true, recurses := true, named := ["math/bits.deBruijn64tab"], apart := false, laid := [("math/bits.deBruijn64tab", laid_math_bits_deBruijn64tab)], narrowed := true }
def DataPartsUptoSaid : Prop := dataPartsUptoRow.holds Tryd.pinned (OpenSpec.upto dataPartsSpec)

end Rows
end Go.Proofs.YtmmclabkkigiaaaDoor
