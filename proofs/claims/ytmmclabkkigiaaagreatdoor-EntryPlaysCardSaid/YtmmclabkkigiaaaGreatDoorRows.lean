/-
  NARROWER THAN 'FOR EVERY INPUT', by the rows' own cells (each row's printed sentence says how): EntryNames: laid · EntryNil: laid · EntryPlays: laid · EntryFull: laid · EntryTable: laid.
  DERIVED. THE GIVEN ROWS OF THIS SEAT. 5 by the template 'for every input the law returns true; each argument reads behind the call as it read before'; 0 by the template 'total and deterministic' (their statements: YtmmclabkkigiaaaGreatDoorTotals.lean).
  GIVEN WITH THE SEED: the statements are not yours to turn. If you find one false, say at which input.
  Laid BY PROGRAM, IN A SANDBOX (cutbox-rows.mjs): the forced cells as the released guide's own fill.sh prints them over the translation 1c71ed9ab0bac4bc… (all of the seat's roots in one cut). By AI agents, Wed Nov 11 2026. No macro, syntax, notation, axiom, sorry.
-/
import Derived.Test.YtmmclabkkigiaaaGreatDoorChecked
import GoSem.Claim
import GoSem.ClaimJoined
import GoSem.ClaimMapViews
import Derived.JoinedTies
import Derived.KernelRfl
namespace Go.Proofs.YtmmclabkkigiaaaGreatDoor
/- THE CELL 'sum', in the pinned program and in every row, IS THE sha256 OF THE DUMP (.gsa) THAT YtmmclabkkigiaaaGreatDoorProg.lean LOADS. Nothing in Lean hashes anything: it is a label: what it is worth is what the hold of that sum in a sandbox is worth. -/
noncomputable def Tryz.pinned : Pinned := { name := "ytmmclabkkigiaaagreatdoor", sum := "1c71ed9ab0bac4bcbc9649388aa7cf4c1751b41a9e4d87fc63a90f31af6b758e", checked := Tryz.checked }
namespace Rows
def none {H : Type} : Left H := { results := [], args := [] }

/- WHAT THE LISTED PACKAGE-LEVEL VARIABLES READ AS WHEN THE CALL BEGINS. Each datum BY PROGRAM (the guide's laid-datum.mjs) off the statement by which the dump's own 'gosem.cut.vars' lays the variable. In a bare row this is a premise. The card (YtmmclabkkigiaaaGreatDoorCards.lean) ties it to the program's text. -/
def laid_math_bits_deBruijn64tab {H : Type} : DataW H := .agg [.lit (.int .u8 0), .lit (.int .u8 1), .lit (.int .u8 56), .lit (.int .u8 2), .lit (.int .u8 57), .lit (.int .u8 49), .lit (.int .u8 28), .lit (.int .u8 3), .lit (.int .u8 61), .lit (.int .u8 58), .lit (.int .u8 42), .lit (.int .u8 50), .lit (.int .u8 38), .lit (.int .u8 29), .lit (.int .u8 17), .lit (.int .u8 4), .lit (.int .u8 62), .lit (.int .u8 47), .lit (.int .u8 59), .lit (.int .u8 36), .lit (.int .u8 45), .lit (.int .u8 43), .lit (.int .u8 51), .lit (.int .u8 22), .lit (.int .u8 53), .lit (.int .u8 39), .lit (.int .u8 33), .lit (.int .u8 30), .lit (.int .u8 24), .lit (.int .u8 18), .lit (.int .u8 12), .lit (.int .u8 5), .lit (.int .u8 63), .lit (.int .u8 55), .lit (.int .u8 48), .lit (.int .u8 27), .lit (.int .u8 60), .lit (.int .u8 41), .lit (.int .u8 37), .lit (.int .u8 16), .lit (.int .u8 46), .lit (.int .u8 35), .lit (.int .u8 44), .lit (.int .u8 21), .lit (.int .u8 52), .lit (.int .u8 32), .lit (.int .u8 23), .lit (.int .u8 11), .lit (.int .u8 54), .lit (.int .u8 26), .lit (.int .u8 40), .lit (.int .u8 15), .lit (.int .u8 34), .lit (.int .u8 20), .lit (.int .u8 31), .lit (.int .u8 10), .lit (.int .u8 25), .lit (.int .u8 14), .lit (.int .u8 19), .lit (.int .u8 9), .lit (.int .u8 13), .lit (.int .u8 8), .lit (.int .u8 7), .lit (.int .u8 6)]

/-- 'grommetlaw15.EntryNames': WHATEVER THE INPUT: true; the input reads as it did. -/
def entryNamesSpec : ChangeSpec := { name := "entryNames", fn := fun _ => fun
  | [d1, d2, d3] => { results := [.lit (.bool true)], args := [d1, d2, d3] }
  | _ => none }
def entryNamesRow : OpenClaim := { program := "ytmmclabkkigiaaagreatdoor", sum := "1c71ed9ab0bac4bcbc9649388aa7cf4c1751b41a9e4d87fc63a90f31af6b758e", func := "grommet/grommetlaw15.EntryNames", spec := "entryNames", inPlace := ["internal/bytealg.IndexByteString", "internal/bytealg.IndexString"], unfollowed := true, recurses := true, named := ["math/bits.deBruijn64tab", "internal/bytealg.MaxLen"], apart := false, laid := [("math/bits.deBruijn64tab", laid_math_bits_deBruijn64tab)] }
def EntryNamesSaid : Prop := entryNamesRow.holds Tryz.pinned (OpenSpec.ofChange entryNamesSpec)

/-- ITS FALSE NEIGHBOUR: 'it returns false'. Refute it at one input. -/
def entryNamesWrong : ChangeSpec := { name := "entryNames", fn := fun _ => fun
  | [d1, d2, d3] => { results := [.lit (.bool false)], args := [d1, d2, d3] }
  | _ => none }
def EntryNamesWrongFalsely : Prop := entryNamesRow.holds Tryz.pinned (OpenSpec.ofChange entryNamesWrong)

/-- 'grommetlaw15.EntryNil': WHATEVER THE INPUT: true; the input reads as it did. -/
def entryNilSpec : ChangeSpec := { name := "entryNil", fn := fun _ => fun
  | [d1, d2, d3] => { results := [.lit (.bool true)], args := [d1, d2, d3] }
  | _ => none }
def entryNilRow : OpenClaim := { program := "ytmmclabkkigiaaagreatdoor", sum := "1c71ed9ab0bac4bcbc9649388aa7cf4c1751b41a9e4d87fc63a90f31af6b758e", func := "grommet/grommetlaw15.EntryNil", spec := "entryNil", inPlace := ["internal/bytealg.IndexByteString", "internal/bytealg.IndexString"], unfollowed := true, recurses := true, named := ["math/bits.deBruijn64tab", "internal/bytealg.MaxLen"], apart := false, laid := [("math/bits.deBruijn64tab", laid_math_bits_deBruijn64tab)] }
def EntryNilSaid : Prop := entryNilRow.holds Tryz.pinned (OpenSpec.ofChange entryNilSpec)

/-- ITS FALSE NEIGHBOUR: 'it returns false'. Refute it at one input. -/
def entryNilWrong : ChangeSpec := { name := "entryNil", fn := fun _ => fun
  | [d1, d2, d3] => { results := [.lit (.bool false)], args := [d1, d2, d3] }
  | _ => none }
def EntryNilWrongFalsely : Prop := entryNilRow.holds Tryz.pinned (OpenSpec.ofChange entryNilWrong)

/-- 'grommetlaw15.EntryPlays': WHATEVER THE INPUT: true; the input reads as it did. -/
def entryPlaysSpec : ChangeSpec := { name := "entryPlays", fn := fun _ => fun
  | [d1, d2, d3, d4] => { results := [.lit (.bool true)], args := [d1, d2, d3, d4] }
  | _ => none }
def entryPlaysRow : OpenClaim := { program := "ytmmclabkkigiaaagreatdoor", sum := "1c71ed9ab0bac4bcbc9649388aa7cf4c1751b41a9e4d87fc63a90f31af6b758e", func := "grommet/grommetlaw15.EntryPlays", spec := "entryPlays", inPlace := ["internal/bytealg.IndexByteString", "internal/bytealg.IndexString"], unfollowed := true, recurses := true, named := ["math/bits.deBruijn64tab", "internal/bytealg.MaxLen"], apart := false, laid := [("math/bits.deBruijn64tab", laid_math_bits_deBruijn64tab)] }
def EntryPlaysSaid : Prop := entryPlaysRow.holds Tryz.pinned (OpenSpec.ofChange entryPlaysSpec)

/-- ITS FALSE NEIGHBOUR: 'it returns false'. Refute it at one input. -/
def entryPlaysWrong : ChangeSpec := { name := "entryPlays", fn := fun _ => fun
  | [d1, d2, d3, d4] => { results := [.lit (.bool false)], args := [d1, d2, d3, d4] }
  | _ => none }
def EntryPlaysWrongFalsely : Prop := entryPlaysRow.holds Tryz.pinned (OpenSpec.ofChange entryPlaysWrong)

/-- 'grommetlaw15.EntryFull': WHATEVER THE INPUT: true; the input reads as it did. -/
def entryFullSpec : ChangeSpec := { name := "entryFull", fn := fun _ => fun
  | [d1, d2] => { results := [.lit (.bool true)], args := [d1, d2] }
  | _ => none }
def entryFullRow : OpenClaim := { program := "ytmmclabkkigiaaagreatdoor", sum := "1c71ed9ab0bac4bcbc9649388aa7cf4c1751b41a9e4d87fc63a90f31af6b758e", func := "grommet/grommetlaw15.EntryFull", spec := "entryFull", inPlace := ["internal/bytealg.IndexByteString", "internal/bytealg.IndexString"], unfollowed := true, recurses := true, named := ["math/bits.deBruijn64tab", "internal/bytealg.MaxLen"], apart := false, laid := [("math/bits.deBruijn64tab", laid_math_bits_deBruijn64tab)] }
def EntryFullSaid : Prop := entryFullRow.holds Tryz.pinned (OpenSpec.ofChange entryFullSpec)

/-- ITS FALSE NEIGHBOUR: 'it returns false'. Refute it at one input. -/
def entryFullWrong : ChangeSpec := { name := "entryFull", fn := fun _ => fun
  | [d1, d2] => { results := [.lit (.bool false)], args := [d1, d2] }
  | _ => none }
def EntryFullWrongFalsely : Prop := entryFullRow.holds Tryz.pinned (OpenSpec.ofChange entryFullWrong)

/-- 'grommetlaw15.EntryTable': WHATEVER THE INPUT: true; the input reads as it did. -/
def entryTableSpec : ChangeSpec := { name := "entryTable", fn := fun _ => fun
  | [d1, d2] => { results := [.lit (.bool true)], args := [d1, d2] }
  | _ => none }
def entryTableRow : OpenClaim := { program := "ytmmclabkkigiaaagreatdoor", sum := "1c71ed9ab0bac4bcbc9649388aa7cf4c1751b41a9e4d87fc63a90f31af6b758e", func := "grommet/grommetlaw15.EntryTable", spec := "entryTable", inPlace := ["internal/bytealg.IndexByteString", "internal/bytealg.IndexString"], unfollowed := true, recurses := true, named := ["math/bits.deBruijn64tab", "internal/bytealg.MaxLen"], apart := false, laid := [("math/bits.deBruijn64tab", laid_math_bits_deBruijn64tab)] }
def EntryTableSaid : Prop := entryTableRow.holds Tryz.pinned (OpenSpec.ofChange entryTableSpec)

/-- ITS FALSE NEIGHBOUR: 'it returns false'. Refute it at one input. -/
def entryTableWrong : ChangeSpec := { name := "entryTable", fn := fun _ => fun
  | [d1, d2] => { results := [.lit (.bool false)], args := [d1, d2] }
  | _ => none }
def EntryTableWrongFalsely : Prop := entryTableRow.holds Tryz.pinned (OpenSpec.ofChange entryTableWrong)

/- THE SECOND FORM. 'bulk': how many values and letters a reading holds, each counted each time it is reached (what is shared counts as often as it is met; a slice's spare places count too). A statement '..UptoSaid' is the law's where the arguments, and the package variables that the reading takes, are together of bulk at most 1048576: NARROWER than '..Said'. Prove '..Said' where nothing that the law and all that it calls make is longer than what came in: it says more and counts as full. Else prove '..UptoSaid'. A law counts once. -/
mutual
def uptoBulk {H : Type} : DataW H → Nat
  | .lit (.string bytes) => bytes.length + 1
  | .lit _ => 1
  | .nil => 1
  | .ptr d => uptoBulk d + 1
  | .slice elems spare => uptoBulkAll elems + uptoBulkAll spare + 1
  | .agg parts => uptoBulkAll parts + 1
  | .iface _ d => uptoBulk d + 1
  | .map entries => uptoBulkEntries entries + 1
  | .held _ => 1
def uptoBulkAll {H : Type} : List (DataW H) → Nat
  | [] => 0
  | d :: r => uptoBulk d + uptoBulkAll r
def uptoBulkEntries {H : Type} : List (Lit × DataW H) → Nat
  | [] => 0
  | x :: r => uptoBulkEntry x + uptoBulkEntries r
def uptoBulkEntry {H : Type} : Lit × DataW H → Nat
  | (.string bytes, d) => bytes.length + uptoBulk d + 1
  | (_, d) => uptoBulk d + 1
 end
def uptoSmall : (H : Type) → List (DataW H) → Bool := fun _ ds => decide (uptoBulkAll ds ≤ 1048576)
def OpenSpec.upto (s : _root_.Go.ChangeSpec) : _root_.Go.OpenSpec := { _root_.Go.OpenSpec.ofChange s with cond := some uptoSmall }

/-- 'grommetlaw15.EntryNames', WHERE WHAT IT READS IS OF BULK AT MOST 1048576: true; the input reads as it did. -/
def entryNamesUptoRow : OpenClaim := { program := "ytmmclabkkigiaaagreatdoor", sum := "1c71ed9ab0bac4bcbc9649388aa7cf4c1751b41a9e4d87fc63a90f31af6b758e", func := "grommet/grommetlaw15.EntryNames", spec := "entryNames", inPlace := ["internal/bytealg.IndexByteString", "internal/bytealg.IndexString"], unfollowed := true, recurses := true, named := ["math/bits.deBruijn64tab", "internal/bytealg.MaxLen"], apart := false, laid := [("math/bits.deBruijn64tab", laid_math_bits_deBruijn64tab)], narrowed := true }
def EntryNamesUptoSaid : Prop := entryNamesUptoRow.holds Tryz.pinned (OpenSpec.upto entryNamesSpec)

/-- 'grommetlaw15.EntryNil', WHERE WHAT IT READS IS OF BULK AT MOST 1048576: true; the input reads as it did. -/
def entryNilUptoRow : OpenClaim := { program := "ytmmclabkkigiaaagreatdoor", sum := "1c71ed9ab0bac4bcbc9649388aa7cf4c1751b41a9e4d87fc63a90f31af6b758e", func := "grommet/grommetlaw15.EntryNil", spec := "entryNil", inPlace := ["internal/bytealg.IndexByteString", "internal/bytealg.IndexString"], unfollowed := true, recurses := true, named := ["math/bits.deBruijn64tab", "internal/bytealg.MaxLen"], apart := false, laid := [("math/bits.deBruijn64tab", laid_math_bits_deBruijn64tab)], narrowed := true }
def EntryNilUptoSaid : Prop := entryNilUptoRow.holds Tryz.pinned (OpenSpec.upto entryNilSpec)

/-- 'grommetlaw15.EntryPlays', WHERE WHAT IT READS IS OF BULK AT MOST 1048576: true; the input reads as it did. -/
def entryPlaysUptoRow : OpenClaim := { program := "ytmmclabkkigiaaagreatdoor", sum := "1c71ed9ab0bac4bcbc9649388aa7cf4c1751b41a9e4d87fc63a90f31af6b758e", func := "grommet/grommetlaw15.EntryPlays", spec := "entryPlays", inPlace := ["internal/bytealg.IndexByteString", "internal/bytealg.IndexString"], unfollowed := true, recurses := true, named := ["math/bits.deBruijn64tab", "internal/bytealg.MaxLen"], apart := false, laid := [("math/bits.deBruijn64tab", laid_math_bits_deBruijn64tab)], narrowed := true }
def EntryPlaysUptoSaid : Prop := entryPlaysUptoRow.holds Tryz.pinned (OpenSpec.upto entryPlaysSpec)

/-- 'grommetlaw15.EntryFull', WHERE WHAT IT READS IS OF BULK AT MOST 1048576: true; the input reads as it did. -/
def entryFullUptoRow : OpenClaim := { program := "ytmmclabkkigiaaagreatdoor", sum := "1c71ed9ab0bac4bcbc9649388aa7cf4c1751b41a9e4d87fc63a90f31af6b758e", func := "grommet/grommetlaw15.EntryFull", spec := "entryFull", inPlace := ["internal/bytealg.IndexByteString", "internal/bytealg.IndexString"], unfollowed := true, recurses := true, named := ["math/bits.deBruijn64tab", "internal/bytealg.MaxLen"], apart := false, laid := [("math/bits.deBruijn64tab", laid_math_bits_deBruijn64tab)], narrowed := true }
def EntryFullUptoSaid : Prop := entryFullUptoRow.holds Tryz.pinned (OpenSpec.upto entryFullSpec)

/-- 'grommetlaw15.EntryTable', WHERE WHAT IT READS IS OF BULK AT MOST 1048576: true; the input reads as it did. -/
def entryTableUptoRow : OpenClaim := { program := "ytmmclabkkigiaaagreatdoor", sum := "1c71ed9ab0bac4bcbc9649388aa7cf4c1751b41a9e4d87fc63a90f31af6b758e", func := "grommet/grommetlaw15.EntryTable", spec := "entryTable", inPlace := ["internal/bytealg.IndexByteString", "internal/bytealg.IndexString"], unfollowed := true, recurses := true, named := ["math/bits.deBruijn64tab", "internal/bytealg.MaxLen"], apart := false, laid := [("math/bits.deBruijn64tab", laid_math_bits_deBruijn64tab)], narrowed := true }
def EntryTableUptoSaid : Prop := entryTableUptoRow.holds Tryz.pinned (OpenSpec.upto entryTableSpec)

end Rows
end Go.Proofs.YtmmclabkkigiaaaGreatDoor
