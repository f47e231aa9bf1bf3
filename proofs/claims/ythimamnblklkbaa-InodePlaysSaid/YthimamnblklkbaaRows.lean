/-
  No cell of these rows narrows 'for every input' (looked for: loops, veiled, ifaces, maps, wideKeys, modest, calm, conditions, laid).
  DERIVED. THE GIVEN ROWS OF THIS SEAT. 11 by the template 'for every input the law returns true; each argument reads behind the call as it read before'; 0 by the template 'total and deterministic' (their statements: YthimamnblklkbaaTotals.lean).
  GIVEN WITH THE SEED: the statements are not yours to turn. If you find one false, say at which input.
  Laid BY PROGRAM, IN A SANDBOX (cutbox-rows.mjs): the forced cells as the released guide's own fill.sh prints them over the translation 8c4d569baefb36f2… (all of the seat's roots in one cut). By AI agents, Wed Nov 11 2026. No macro, syntax, notation, axiom, sorry.
-/
import Derived.Test.YthimamnblklkbaaChecked
import GoSem.Claim
import GoSem.ClaimJoined
import GoSem.ClaimMapViews
import Derived.JoinedTies
import Derived.KernelRfl
namespace Go.Proofs.Ythimamnblklkbaa
/- THE CELL 'sum', in the pinned program and in every row, IS THE sha256 OF THE DUMP (.gsa) THAT YthimamnblklkbaaProg.lean LOADS. Nothing in Lean hashes anything: it is a label: what it is worth is what the hold of that sum in a sandbox is worth. -/
noncomputable def Try.pinned : Pinned := { name := "ythimamnblklkbaa", sum := "8c4d569baefb36f2686ea3688887abc36b5d2ef0a792df3ebc45cbfcefc76948", checked := Try.checked }
namespace Rows
def none {H : Type} : Left H := { results := [], args := [] }

/-- 'grommetlaw05.ViewApplies': WHATEVER THE INPUT: true; the input reads as it did. -/
def viewAppliesSpec : ChangeSpec := { name := "viewApplies", fn := fun _ => fun
  | [d1, d2] => { results := [.lit (.bool true)], args := [d1, d2] }
  | _ => none }
def viewAppliesRow : OpenClaim := { program := "ythimamnblklkbaa", sum := "8c4d569baefb36f2686ea3688887abc36b5d2ef0a792df3ebc45cbfcefc76948", func := "grommet/grommetlaw05.ViewApplies", spec := "viewApplies", unfollowed := true, recurses := true, apart := false }
def ViewAppliesSaid : Prop := viewAppliesRow.holds Try.pinned (OpenSpec.ofChange viewAppliesSpec)

/-- ITS FALSE NEIGHBOUR: 'it returns false'. Refute it at one input. -/
def viewAppliesWrong : ChangeSpec := { name := "viewApplies", fn := fun _ => fun
  | [d1, d2] => { results := [.lit (.bool false)], args := [d1, d2] }
  | _ => none }
def ViewAppliesWrongFalsely : Prop := viewAppliesRow.holds Try.pinned (OpenSpec.ofChange viewAppliesWrong)

/-- 'grommetlaw05.ViewTwice': WHATEVER THE INPUT: true; the input reads as it did. -/
def viewTwiceSpec : ChangeSpec := { name := "viewTwice", fn := fun _ => fun
  | [d1, d2, d3] => { results := [.lit (.bool true)], args := [d1, d2, d3] }
  | _ => none }
def viewTwiceRow : OpenClaim := { program := "ythimamnblklkbaa", sum := "8c4d569baefb36f2686ea3688887abc36b5d2ef0a792df3ebc45cbfcefc76948", func := "grommet/grommetlaw05.ViewTwice", spec := "viewTwice", unfollowed := true, recurses := true, apart := false }
def ViewTwiceSaid : Prop := viewTwiceRow.holds Try.pinned (OpenSpec.ofChange viewTwiceSpec)

/-- ITS FALSE NEIGHBOUR: 'it returns false'. Refute it at one input. -/
def viewTwiceWrong : ChangeSpec := { name := "viewTwice", fn := fun _ => fun
  | [d1, d2, d3] => { results := [.lit (.bool false)], args := [d1, d2, d3] }
  | _ => none }
def ViewTwiceWrongFalsely : Prop := viewTwiceRow.holds Try.pinned (OpenSpec.ofChange viewTwiceWrong)

/-- 'grommetlaw05.ViewOne': WHATEVER THE INPUT: true; the input reads as it did. -/
def viewOneSpec : ChangeSpec := { name := "viewOne", fn := fun _ => fun
  | [d1, d2, d3, d4] => { results := [.lit (.bool true)], args := [d1, d2, d3, d4] }
  | _ => none }
def viewOneRow : OpenClaim := { program := "ythimamnblklkbaa", sum := "8c4d569baefb36f2686ea3688887abc36b5d2ef0a792df3ebc45cbfcefc76948", func := "grommet/grommetlaw05.ViewOne", spec := "viewOne", unfollowed := true, recurses := true, apart := false }
def ViewOneSaid : Prop := viewOneRow.holds Try.pinned (OpenSpec.ofChange viewOneSpec)

/-- ITS FALSE NEIGHBOUR: 'it returns false'. Refute it at one input. -/
def viewOneWrong : ChangeSpec := { name := "viewOne", fn := fun _ => fun
  | [d1, d2, d3, d4] => { results := [.lit (.bool false)], args := [d1, d2, d3, d4] }
  | _ => none }
def ViewOneWrongFalsely : Prop := viewOneRow.holds Try.pinned (OpenSpec.ofChange viewOneWrong)

/-- 'grommetlaw05.ViewPlays': WHATEVER THE INPUT: true; the input reads as it did. -/
def viewPlaysSpec : ChangeSpec := { name := "viewPlays", fn := fun _ => fun
  | [d1, d2] => { results := [.lit (.bool true)], args := [d1, d2] }
  | _ => none }
def viewPlaysRow : OpenClaim := { program := "ythimamnblklkbaa", sum := "8c4d569baefb36f2686ea3688887abc36b5d2ef0a792df3ebc45cbfcefc76948", func := "grommet/grommetlaw05.ViewPlays", spec := "viewPlays", unfollowed := true, recurses := true, apart := false }
def ViewPlaysSaid : Prop := viewPlaysRow.holds Try.pinned (OpenSpec.ofChange viewPlaysSpec)

/-- ITS FALSE NEIGHBOUR: 'it returns false'. Refute it at one input. -/
def viewPlaysWrong : ChangeSpec := { name := "viewPlays", fn := fun _ => fun
  | [d1, d2] => { results := [.lit (.bool false)], args := [d1, d2] }
  | _ => none }
def ViewPlaysWrongFalsely : Prop := viewPlaysRow.holds Try.pinned (OpenSpec.ofChange viewPlaysWrong)

/-- 'grommetlaw05.ViewNil': WHATEVER THE INPUT: true; the input reads as it did. -/
def viewNilSpec : ChangeSpec := { name := "viewNil", fn := fun _ => fun
  | [d1, d2] => { results := [.lit (.bool true)], args := [d1, d2] }
  | _ => none }
def viewNilRow : OpenClaim := { program := "ythimamnblklkbaa", sum := "8c4d569baefb36f2686ea3688887abc36b5d2ef0a792df3ebc45cbfcefc76948", func := "grommet/grommetlaw05.ViewNil", spec := "viewNil", unfollowed := true, recurses := true, apart := false }
def ViewNilSaid : Prop := viewNilRow.holds Try.pinned (OpenSpec.ofChange viewNilSpec)

/-- ITS FALSE NEIGHBOUR: 'it returns false'. Refute it at one input. -/
def viewNilWrong : ChangeSpec := { name := "viewNil", fn := fun _ => fun
  | [d1, d2] => { results := [.lit (.bool false)], args := [d1, d2] }
  | _ => none }
def ViewNilWrongFalsely : Prop := viewNilRow.holds Try.pinned (OpenSpec.ofChange viewNilWrong)

/-- 'grommetlaw05.ViewFull': WHATEVER THE INPUT: true; the input reads as it did. -/
def viewFullSpec : ChangeSpec := { name := "viewFull", fn := fun _ => fun
  | [d1, d2] => { results := [.lit (.bool true)], args := [d1, d2] }
  | _ => none }
def viewFullRow : OpenClaim := { program := "ythimamnblklkbaa", sum := "8c4d569baefb36f2686ea3688887abc36b5d2ef0a792df3ebc45cbfcefc76948", func := "grommet/grommetlaw05.ViewFull", spec := "viewFull", unfollowed := true, recurses := true, apart := false }
def ViewFullSaid : Prop := viewFullRow.holds Try.pinned (OpenSpec.ofChange viewFullSpec)

/-- ITS FALSE NEIGHBOUR: 'it returns false'. Refute it at one input. -/
def viewFullWrong : ChangeSpec := { name := "viewFull", fn := fun _ => fun
  | [d1, d2] => { results := [.lit (.bool false)], args := [d1, d2] }
  | _ => none }
def ViewFullWrongFalsely : Prop := viewFullRow.holds Try.pinned (OpenSpec.ofChange viewFullWrong)

/-- 'grommetlaw12.InodeRight': WHATEVER THE INPUT: true; the input reads as it did. -/
def inodeRightSpec : ChangeSpec := { name := "inodeRight", fn := fun _ => fun
  | [d1, d2, d3, d4, d5] => { results := [.lit (.bool true)], args := [d1, d2, d3, d4, d5] }
  | _ => none }
def inodeRightRow : OpenClaim := { program := "ythimamnblklkbaa", sum := "8c4d569baefb36f2686ea3688887abc36b5d2ef0a792df3ebc45cbfcefc76948", func := "grommet/grommetlaw12.InodeRight", spec := "inodeRight", apart := false }
def InodeRightSaid : Prop := inodeRightRow.holds Try.pinned (OpenSpec.ofChange inodeRightSpec)

/-- ITS FALSE NEIGHBOUR: 'it returns false'. Refute it at one input. -/
def inodeRightWrong : ChangeSpec := { name := "inodeRight", fn := fun _ => fun
  | [d1, d2, d3, d4, d5] => { results := [.lit (.bool false)], args := [d1, d2, d3, d4, d5] }
  | _ => none }
def InodeRightWrongFalsely : Prop := inodeRightRow.holds Try.pinned (OpenSpec.ofChange inodeRightWrong)

/-- 'grommetlaw12.InodeNames': WHATEVER THE INPUT: true; the input reads as it did. -/
def inodeNamesSpec : ChangeSpec := { name := "inodeNames", fn := fun _ => fun
  | [d1, d2, d3, d4] => { results := [.lit (.bool true)], args := [d1, d2, d3, d4] }
  | _ => none }
def inodeNamesRow : OpenClaim := { program := "ythimamnblklkbaa", sum := "8c4d569baefb36f2686ea3688887abc36b5d2ef0a792df3ebc45cbfcefc76948", func := "grommet/grommetlaw12.InodeNames", spec := "inodeNames", apart := false }
def InodeNamesSaid : Prop := inodeNamesRow.holds Try.pinned (OpenSpec.ofChange inodeNamesSpec)

/-- ITS FALSE NEIGHBOUR: 'it returns false'. Refute it at one input. -/
def inodeNamesWrong : ChangeSpec := { name := "inodeNames", fn := fun _ => fun
  | [d1, d2, d3, d4] => { results := [.lit (.bool false)], args := [d1, d2, d3, d4] }
  | _ => none }
def InodeNamesWrongFalsely : Prop := inodeNamesRow.holds Try.pinned (OpenSpec.ofChange inodeNamesWrong)

/-- 'grommetlaw12.InodeNil': WHATEVER THE INPUT: true; the input reads as it did. -/
def inodeNilSpec : ChangeSpec := { name := "inodeNil", fn := fun _ => fun
  | [d1, d2, d3] => { results := [.lit (.bool true)], args := [d1, d2, d3] }
  | _ => none }
def inodeNilRow : OpenClaim := { program := "ythimamnblklkbaa", sum := "8c4d569baefb36f2686ea3688887abc36b5d2ef0a792df3ebc45cbfcefc76948", func := "grommet/grommetlaw12.InodeNil", spec := "inodeNil", apart := false }
def InodeNilSaid : Prop := inodeNilRow.holds Try.pinned (OpenSpec.ofChange inodeNilSpec)

/-- ITS FALSE NEIGHBOUR: 'it returns false'. Refute it at one input. -/
def inodeNilWrong : ChangeSpec := { name := "inodeNil", fn := fun _ => fun
  | [d1, d2, d3] => { results := [.lit (.bool false)], args := [d1, d2, d3] }
  | _ => none }
def InodeNilWrongFalsely : Prop := inodeNilRow.holds Try.pinned (OpenSpec.ofChange inodeNilWrong)

/-- 'grommetlaw12.InodePlays': WHATEVER THE INPUT: true; the input reads as it did. -/
def inodePlaysSpec : ChangeSpec := { name := "inodePlays", fn := fun _ => fun
  | [d1, d2, d3, d4] => { results := [.lit (.bool true)], args := [d1, d2, d3, d4] }
  | _ => none }
def inodePlaysRow : OpenClaim := { program := "ythimamnblklkbaa", sum := "8c4d569baefb36f2686ea3688887abc36b5d2ef0a792df3ebc45cbfcefc76948", func := "grommet/grommetlaw12.InodePlays", spec := "inodePlays", apart := false }
def InodePlaysSaid : Prop := inodePlaysRow.holds Try.pinned (OpenSpec.ofChange inodePlaysSpec)

/-- ITS FALSE NEIGHBOUR: 'it returns false'. Refute it at one input. -/
def inodePlaysWrong : ChangeSpec := { name := "inodePlays", fn := fun _ => fun
  | [d1, d2, d3, d4] => { results := [.lit (.bool false)], args := [d1, d2, d3, d4] }
  | _ => none }
def InodePlaysWrongFalsely : Prop := inodePlaysRow.holds Try.pinned (OpenSpec.ofChange inodePlaysWrong)

/-- 'grommetlaw12.InodeBack': WHATEVER THE INPUT: true; the input reads as it did. -/
def inodeBackSpec : ChangeSpec := { name := "inodeBack", fn := fun _ => fun
  | [d1, d2, d3, d4, d5] => { results := [.lit (.bool true)], args := [d1, d2, d3, d4, d5] }
  | _ => none }
def inodeBackRow : OpenClaim := { program := "ythimamnblklkbaa", sum := "8c4d569baefb36f2686ea3688887abc36b5d2ef0a792df3ebc45cbfcefc76948", func := "grommet/grommetlaw12.InodeBack", spec := "inodeBack", unfollowed := true, recurses := true, apart := false }
def InodeBackSaid : Prop := inodeBackRow.holds Try.pinned (OpenSpec.ofChange inodeBackSpec)

/-- ITS FALSE NEIGHBOUR: 'it returns false'. Refute it at one input. -/
def inodeBackWrong : ChangeSpec := { name := "inodeBack", fn := fun _ => fun
  | [d1, d2, d3, d4, d5] => { results := [.lit (.bool false)], args := [d1, d2, d3, d4, d5] }
  | _ => none }
def InodeBackWrongFalsely : Prop := inodeBackRow.holds Try.pinned (OpenSpec.ofChange inodeBackWrong)

/- THE SECOND FORM. 'bulk': how many values and letters a reading holds, each counted each time it is reached (what is shared counts as often as it is met; a slice's spare places count too). A statement '..UptoSaid' is the law's where the arguments, and the package variables that the reading takes, are together of bulk at most 1048576: NARROWER than '..Said'. Prove '..Said' where nothing that the law and all that it calls make is longer than what came in: it says more and counts as full. Else prove '..UptoSaid'. A law counts once. -/
mutual
def uptoBulk {H : Type} : DataW H → Nat
  | .lit (.string bytes) => bytes.length + 1
  | .lit _ => 1
  | .nil => 1
  | .ptr d => uptoBulk d + 1
  | .slice elems spare => uptoBulkAll elems + uptoBulkAll spare + 1
  | .agg parts => uptoBulkAll parts + 1
  | .iface _ d => uptoBulk d + 1
  | .map entries => uptoBulkEntries entries + 1
  | .held _ => 1
def uptoBulkAll {H : Type} : List (DataW H) → Nat
  | [] => 0
  | d :: r => uptoBulk d + uptoBulkAll r
def uptoBulkEntries {H : Type} : List (Lit × DataW H) → Nat
  | [] => 0
  | x :: r => uptoBulkEntry x + uptoBulkEntries r
def uptoBulkEntry {H : Type} : Lit × DataW H → Nat
  | (.string bytes, d) => bytes.length + uptoBulk d + 1
  | (_, d) => uptoBulk d + 1
 end
def uptoSmall : (H : Type) → List (DataW H) → Bool := fun _ ds => decide (uptoBulkAll ds ≤ 1048576)
def OpenSpec.upto (s : _root_.Go.ChangeSpec) : _root_.Go.OpenSpec := { _root_.Go.OpenSpec.ofChange s with cond := some uptoSmall }

/-- 'grommetlaw05.ViewApplies', WHERE WHAT IT READS IS OF BULK AT MOST 1048576: true; the input reads as it did. -/
def viewAppliesUptoRow : OpenClaim := { program := "ythimamnblklkbaa", sum := "8c4d569baefb36f2686ea3688887abc36b5d2ef0a792df3ebc45cbfcefc76948", func := "grommet/grommetlaw05.ViewApplies", spec := "viewApplies", unfollowed := true, recurses := true, apart := false, narrowed := true }
def ViewAppliesUptoSaid : Prop := viewAppliesUptoRow.holds Try.pinned (OpenSpec.upto viewAppliesSpec)

/-- 'grommetlaw05.ViewTwice', WHERE WHAT IT READS IS OF BULK AT MOST 1048576: true; the input reads as it did. -/
def viewTwiceUptoRow : OpenClaim := { program := "ythimamnblklkbaa", sum := "8c4d569baefb36f2686ea3688887abc36b5d2ef0a792df3ebc45cbfcefc76948", func := "grommet/grommetlaw05.ViewTwice", spec := "viewTwice", unfollowed := true, recurses := true, apart := false, narrowed := true }
def ViewTwiceUptoSaid : Prop := viewTwiceUptoRow.holds Try.pinned (OpenSpec.upto viewTwiceSpec)

/-- 'grommetlaw05.ViewOne', WHERE WHAT IT READS IS OF BULK AT MOST 1048576: true; the input reads as it did. -/
def viewOneUptoRow : OpenClaim := { program := "ythimamnblklkbaa", sum := "8c4d569baefb36f2686ea3688887abc36b5d2ef0a792df3ebc45cbfcefc76948", func := "grommet/grommetlaw05.ViewOne", spec := "viewOne", unfollowed := true, recurses := true, apart := false, narrowed := true }
def ViewOneUptoSaid : Prop := viewOneUptoRow.holds Try.pinned (OpenSpec.upto viewOneSpec)

/-- 'grommetlaw05.ViewPlays', WHERE WHAT IT READS IS OF BULK AT MOST 1048576: true; the input reads as it did. -/
def viewPlaysUptoRow : OpenClaim := { program := "ythimamnblklkbaa", sum := "8c4d569baefb36f2686ea3688887abc36b5d2ef0a792df3ebc45cbfcefc76948", func := "grommet/grommetlaw05.ViewPlays", spec := "viewPlays", unfollowed := true, recurses := true, apart := false, narrowed := true }
def ViewPlaysUptoSaid : Prop := viewPlaysUptoRow.holds Try.pinned (OpenSpec.upto viewPlaysSpec)

/-- 'grommetlaw05.ViewNil', WHERE WHAT IT READS IS OF BULK AT MOST 1048576: true; the input reads as it did. -/
def viewNilUptoRow : OpenClaim := { program := "ythimamnblklkbaa", sum := "8c4d569baefb36f2686ea3688887abc36b5d2ef0a792df3ebc45cbfcefc76948", func := "grommet/grommetlaw05.ViewNil", spec := "viewNil", unfollowed := true, recurses := true, apart := false, narrowed := true }
def ViewNilUptoSaid : Prop := viewNilUptoRow.holds Try.pinned (OpenSpec.upto viewNilSpec)

/-- 'grommetlaw05.ViewFull', WHERE WHAT IT READS IS OF BULK AT MOST 1048576: true; the input reads as it did. -/
def viewFullUptoRow : OpenClaim := { program := "ythimamnblklkbaa", sum := "8c4d569baefb36f2686ea3688887abc36b5d2ef0a792df3ebc45cbfcefc76948", func := "grommet/grommetlaw05.ViewFull", spec := "viewFull", unfollowed := true, recurses := true, apart := false, narrowed := true }
def ViewFullUptoSaid : Prop := viewFullUptoRow.holds Try.pinned (OpenSpec.upto viewFullSpec)

/-- 'grommetlaw12.InodeRight', WHERE WHAT IT READS IS OF BULK AT MOST 1048576: true; the input reads as it did. -/
def inodeRightUptoRow : OpenClaim := { program := "ythimamnblklkbaa", sum := "8c4d569baefb36f2686ea3688887abc36b5d2ef0a792df3ebc45cbfcefc76948", func := "grommet/grommetlaw12.InodeRight", spec := "inodeRight", apart := false, narrowed := true }
def InodeRightUptoSaid : Prop := inodeRightUptoRow.holds Try.pinned (OpenSpec.upto inodeRightSpec)

/-- 'grommetlaw12.InodeNames', WHERE WHAT IT READS IS OF BULK AT MOST 1048576: true; the input reads as it did. -/
def inodeNamesUptoRow : OpenClaim := { program := "ythimamnblklkbaa", sum := "8c4d569baefb36f2686ea3688887abc36b5d2ef0a792df3ebc45cbfcefc76948", func := "grommet/grommetlaw12.InodeNames", spec := "inodeNames", apart := false, narrowed := true }
def InodeNamesUptoSaid : Prop := inodeNamesUptoRow.holds Try.pinned (OpenSpec.upto inodeNamesSpec)

/-- 'grommetlaw12.InodeNil', WHERE WHAT IT READS IS OF BULK AT MOST 1048576: true; the input reads as it did. -/
def inodeNilUptoRow : OpenClaim := { program := "ythimamnblklkbaa", sum := "8c4d569baefb36f2686ea3688887abc36b5d2ef0a792df3ebc45cbfcefc76948", func := "grommet/grommetlaw12.InodeNil", spec := "inodeNil", apart := false, narrowed := true }
def InodeNilUptoSaid : Prop := inodeNilUptoRow.holds Try.pinned (OpenSpec.upto inodeNilSpec)

/-- 'grommetlaw12.InodePlays', WHERE WHAT IT READS IS OF BULK AT MOST 1048576: true; the input reads as it did. -/
def inodePlaysUptoRow : OpenClaim := { program := "ythimamnblklkbaa", sum := "8c4d569baefb36f2686ea3688887abc36b5d2ef0a792df3ebc45cbfcefc76948", func := "grommet/grommetlaw12.InodePlays", spec := "inodePlays", apart := false, narrowed := true }
def InodePlaysUptoSaid : Prop := inodePlaysUptoRow.holds Try.pinned (OpenSpec.upto inodePlaysSpec)

/-- 'grommetlaw12.InodeBack', WHERE WHAT IT READS IS OF BULK AT MOST 1048576: true; the input reads as it did. -/
def inodeBackUptoRow : OpenClaim := { program := "ythimamnblklkbaa", sum := "8c4d569baefb36f2686ea3688887abc36b5d2ef0a792df3ebc45cbfcefc76948", func := "grommet/grommetlaw12.InodeBack", spec := "inodeBack", unfollowed := true, recurses := true, apart := false, narrowed := true }
def InodeBackUptoSaid : Prop := inodeBackUptoRow.holds Try.pinned (OpenSpec.upto inodeBackSpec)

end Rows
end Go.Proofs.Ythimamnblklkbaa
