/-
  No cell of these rows narrows 'for every input' (looked for: loops, veiled, ifaces, maps, wideKeys, modest, calm, conditions, laid).
  DERIVED. THE GIVEN ROWS OF THIS SEAT. 7 by the template 'for every input the law returns true; each argument reads behind the call as it read before'; 0 by the template 'total and deterministic' (their statements: YtfnedoiplblldaaGreatTotals.lean).
  GIVEN WITH THE SEED: the statements are not yours to turn. If you find one false, say at which input.
  Laid BY PROGRAM, IN A SANDBOX (cutbox-rows.mjs): the forced cells as the released guide's own fill.sh prints them over the translation 6823375155764322… (all of the seat's roots in one cut). By AI agents, Wed Nov 11 2026. No macro, syntax, notation, axiom, sorry.
-/
import Derived.Test.YtfnedoiplblldaaGreatChecked
import GoSem.Claim
import GoSem.ClaimJoined
import GoSem.ClaimMapViews
import Derived.JoinedTies
import Derived.KernelRfl
namespace Go.Proofs.YtfnedoiplblldaaGreat
/- THE CELL 'sum', in the pinned program and in every row, IS THE sha256 OF THE DUMP (.gsa) THAT YtfnedoiplblldaaGreatProg.lean LOADS. Nothing in Lean hashes anything: it is a label: what it is worth is what the hold of that sum in a sandbox is worth. -/
noncomputable def Tryz.pinned : Pinned := { name := "ytfnedoiplblldaagreat", sum := "6823375155764322480c4c9325673dd6fdecdad1984316f5d6fdfb7eecfea719", checked := Tryz.checked }
namespace Rows
def none {H : Type} : Left H := { results := [], args := [] }

/-- 'laws.FnExactNoteTurn': WHATEVER THE INPUT: true; the input reads as it did. -/
def fnExactNoteTurnSpec : ChangeSpec := { name := "fnExactNoteTurn", fn := fun _ => fun
  | [d1, d2, d3, d4] => { results := [.lit (.bool true)], args := [d1, d2, d3, d4] }
  | _ => none }
def fnExactNoteTurnRow : OpenClaim := { program := "ytfnedoiplblldaagreat", sum := "6823375155764322480c4c9325673dd6fdecdad1984316f5d6fdfb7eecfea719", func := "loop.example/g00591/laws.FnExactNoteTurn", spec := "fnExactNoteTurn", apart := false }
def FnExactNoteTurnSaid : Prop := fnExactNoteTurnRow.holds Tryz.pinned (OpenSpec.ofChange fnExactNoteTurnSpec)

/-- ITS FALSE NEIGHBOUR: 'it returns false'. Refute it at one input. -/
def fnExactNoteTurnWrong : ChangeSpec := { name := "fnExactNoteTurn", fn := fun _ => fun
  | [d1, d2, d3, d4] => { results := [.lit (.bool false)], args := [d1, d2, d3, d4] }
  | _ => none }
def FnExactNoteTurnWrongFalsely : Prop := fnExactNoteTurnRow.holds Tryz.pinned (OpenSpec.ofChange fnExactNoteTurnWrong)

/-- 'laws.FnExactNewWorld': WHATEVER THE INPUT: true; the input reads as it did. -/
def fnExactNewWorldSpec : ChangeSpec := { name := "fnExactNewWorld", fn := fun _ => fun
  | [d1, d2] => { results := [.lit (.bool true)], args := [d1, d2] }
  | _ => none }
def fnExactNewWorldRow : OpenClaim := { program := "ytfnedoiplblldaagreat", sum := "6823375155764322480c4c9325673dd6fdecdad1984316f5d6fdfb7eecfea719", func := "loop.example/g00591/laws.FnExactNewWorld", spec := "fnExactNewWorld", unfollowed := true, recurses := true, apart := false }
def FnExactNewWorldSaid : Prop := fnExactNewWorldRow.holds Tryz.pinned (OpenSpec.ofChange fnExactNewWorldSpec)

/-- ITS FALSE NEIGHBOUR: 'it returns false'. Refute it at one input. -/
def fnExactNewWorldWrong : ChangeSpec := { name := "fnExactNewWorld", fn := fun _ => fun
  | [d1, d2] => { results := [.lit (.bool false)], args := [d1, d2] }
  | _ => none }
def FnExactNewWorldWrongFalsely : Prop := fnExactNewWorldRow.holds Tryz.pinned (OpenSpec.ofChange fnExactNewWorldWrong)

/-- 'laws.FnExactPush': WHATEVER THE INPUT: true; the input reads as it did. -/
def fnExactPushSpec : ChangeSpec := { name := "fnExactPush", fn := fun _ => fun
  | [d1, d2, d3] => { results := [.lit (.bool true)], args := [d1, d2, d3] }
  | _ => none }
def fnExactPushRow : OpenClaim := { program := "ytfnedoiplblldaagreat", sum := "6823375155764322480c4c9325673dd6fdecdad1984316f5d6fdfb7eecfea719", func := "loop.example/g00591/laws.FnExactPush", spec := "fnExactPush", unfollowed := true, recurses := true, apart := false }
def FnExactPushSaid : Prop := fnExactPushRow.holds Tryz.pinned (OpenSpec.ofChange fnExactPushSpec)

/-- ITS FALSE NEIGHBOUR: 'it returns false'. Refute it at one input. -/
def fnExactPushWrong : ChangeSpec := { name := "fnExactPush", fn := fun _ => fun
  | [d1, d2, d3] => { results := [.lit (.bool false)], args := [d1, d2, d3] }
  | _ => none }
def FnExactPushWrongFalsely : Prop := fnExactPushRow.holds Tryz.pinned (OpenSpec.ofChange fnExactPushWrong)

/-- 'laws.FnExactMakeObject': WHATEVER THE INPUT: true; the input reads as it did. -/
def fnExactMakeObjectSpec : ChangeSpec := { name := "fnExactMakeObject", fn := fun _ => fun
  | [d1, d2, d3] => { results := [.lit (.bool true)], args := [d1, d2, d3] }
  | _ => none }
def fnExactMakeObjectRow : OpenClaim := { program := "ytfnedoiplblldaagreat", sum := "6823375155764322480c4c9325673dd6fdecdad1984316f5d6fdfb7eecfea719", func := "loop.example/g00591/laws.FnExactMakeObject", spec := "fnExactMakeObject", unfollowed := true, recurses := true, apart := false }
def FnExactMakeObjectSaid : Prop := fnExactMakeObjectRow.holds Tryz.pinned (OpenSpec.ofChange fnExactMakeObjectSpec)

/-- ITS FALSE NEIGHBOUR: 'it returns false'. Refute it at one input. -/
def fnExactMakeObjectWrong : ChangeSpec := { name := "fnExactMakeObject", fn := fun _ => fun
  | [d1, d2, d3] => { results := [.lit (.bool false)], args := [d1, d2, d3] }
  | _ => none }
def FnExactMakeObjectWrongFalsely : Prop := fnExactMakeObjectRow.holds Tryz.pinned (OpenSpec.ofChange fnExactMakeObjectWrong)

/-- 'laws.FnExactJoinLink': WHATEVER THE INPUT: true; the input reads as it did. -/
def fnExactJoinLinkSpec : ChangeSpec := { name := "fnExactJoinLink", fn := fun _ => fun
  | [d1, d2] => { results := [.lit (.bool true)], args := [d1, d2] }
  | _ => none }
def fnExactJoinLinkRow : OpenClaim := { program := "ytfnedoiplblldaagreat", sum := "6823375155764322480c4c9325673dd6fdecdad1984316f5d6fdfb7eecfea719", func := "loop.example/g00591/laws.FnExactJoinLink", spec := "fnExactJoinLink", unfollowed := true, recurses := true, apart := false }
def FnExactJoinLinkSaid : Prop := fnExactJoinLinkRow.holds Tryz.pinned (OpenSpec.ofChange fnExactJoinLinkSpec)

/-- ITS FALSE NEIGHBOUR: 'it returns false'. Refute it at one input. -/
def fnExactJoinLinkWrong : ChangeSpec := { name := "fnExactJoinLink", fn := fun _ => fun
  | [d1, d2] => { results := [.lit (.bool false)], args := [d1, d2] }
  | _ => none }
def FnExactJoinLinkWrongFalsely : Prop := fnExactJoinLinkRow.holds Tryz.pinned (OpenSpec.ofChange fnExactJoinLinkWrong)

/-- 'laws.FnExactToWire': WHATEVER THE INPUT: true; the input reads as it did. -/
def fnExactToWireSpec : ChangeSpec := { name := "fnExactToWire", fn := fun _ => fun
  | [d1, d2, d3] => { results := [.lit (.bool true)], args := [d1, d2, d3] }
  | _ => none }
def fnExactToWireRow : OpenClaim := { program := "ytfnedoiplblldaagreat", sum := "6823375155764322480c4c9325673dd6fdecdad1984316f5d6fdfb7eecfea719", func := "loop.example/g00591/laws.FnExactToWire", spec := "fnExactToWire", unfollowed := true, recurses := true, apart := false }
def FnExactToWireSaid : Prop := fnExactToWireRow.holds Tryz.pinned (OpenSpec.ofChange fnExactToWireSpec)

/-- ITS FALSE NEIGHBOUR: 'it returns false'. Refute it at one input. -/
def fnExactToWireWrong : ChangeSpec := { name := "fnExactToWire", fn := fun _ => fun
  | [d1, d2, d3] => { results := [.lit (.bool false)], args := [d1, d2, d3] }
  | _ => none }
def FnExactToWireWrongFalsely : Prop := fnExactToWireRow.holds Tryz.pinned (OpenSpec.ofChange fnExactToWireWrong)

/-- 'laws.FnExactToWires': WHATEVER THE INPUT: true; the input reads as it did. -/
def fnExactToWiresSpec : ChangeSpec := { name := "fnExactToWires", fn := fun _ => fun
  | [d1, d2, d3] => { results := [.lit (.bool true)], args := [d1, d2, d3] }
  | _ => none }
def fnExactToWiresRow : OpenClaim := { program := "ytfnedoiplblldaagreat", sum := "6823375155764322480c4c9325673dd6fdecdad1984316f5d6fdfb7eecfea719", func := "loop.example/g00591/laws.FnExactToWires", spec := "fnExactToWires", unfollowed := true, recurses := true, apart := false }
def FnExactToWiresSaid : Prop := fnExactToWiresRow.holds Tryz.pinned (OpenSpec.ofChange fnExactToWiresSpec)

/-- ITS FALSE NEIGHBOUR: 'it returns false'. Refute it at one input. -/
def fnExactToWiresWrong : ChangeSpec := { name := "fnExactToWires", fn := fun _ => fun
  | [d1, d2, d3] => { results := [.lit (.bool false)], args := [d1, d2, d3] }
  | _ => none }
def FnExactToWiresWrongFalsely : Prop := fnExactToWiresRow.holds Tryz.pinned (OpenSpec.ofChange fnExactToWiresWrong)

/- THE SECOND FORM. 'bulk': how many values and letters a reading holds, each counted each time it is reached (what is shared counts as often as it is met; a slice's spare places count too). A statement '..UptoSaid' is the law's where the arguments, and the package variables that the reading takes, are together of bulk at most 1048576: NARROWER than '..Said'. Prove '..Said' where nothing that the law and all that it calls make is longer than what came in: it says more and counts as full. Else prove '..UptoSaid'. A law counts once. -/
mutual
def uptoBulk {H : Type} : DataW H → Nat
  | .lit (.string bytes) => bytes.length + 1
  | .lit _ => 1
  | .nil => 1
  | .ptr d => uptoBulk d + 1
  | .slice elems spare => uptoBulkAll elems + uptoBulkAll spare + 1
  | .agg parts => uptoBulkAll parts + 1
  | .iface _ d => uptoBulk d + 1
  | .map entries => uptoBulkEntries entries + 1
  | .held _ => 1
def uptoBulkAll {H : Type} : List (DataW H) → Nat
  | [] => 0
  | d :: r => uptoBulk d + uptoBulkAll r
def uptoBulkEntries {H : Type} : List (Lit × DataW H) → Nat
  | [] => 0
  | x :: r => uptoBulkEntry x + uptoBulkEntries r
def uptoBulkEntry {H : Type} : Lit × DataW H → Nat
  | (.string bytes, d) => bytes.length + uptoBulk d + 1
  | (_, d) => uptoBulk d + 1
 end
def uptoSmall : (H : Type) → List (DataW H) → Bool := fun _ ds => decide (uptoBulkAll ds ≤ 1048576)
def OpenSpec.upto (s : _root_.Go.ChangeSpec) : _root_.Go.OpenSpec := { _root_.Go.OpenSpec.ofChange s with cond := some uptoSmall }

/-- 'laws.FnExactNoteTurn', WHERE WHAT IT READS IS OF BULK AT MOST 1048576: true; the input reads as it did. -/
def fnExactNoteTurnUptoRow : OpenClaim := { program := "ytfnedoiplblldaagreat", sum := "6823375155764322480c4c9325673dd6fdecdad1984316f5d6fdfb7eecfea719", func := "loop.example/g00591/laws.FnExactNoteTurn", spec := "fnExactNoteTurn", apart := false, narrowed := true }
def FnExactNoteTurnUptoSaid : Prop := fnExactNoteTurnUptoRow.holds Tryz.pinned (OpenSpec.upto fnExactNoteTurnSpec)

/-- 'laws.FnExactNewWorld', WHERE WHAT IT READS IS OF BULK AT MOST 1048576: true; the input reads as it did. -/
def fnExactNewWorldUptoRow : OpenClaim := { program := "ytfnedoiplblldaagreat", sum := "6823375155764322480c4c9325673dd6fdecdad1984316f5d6fdfb7eecfea719", func := "loop.example/g00591/laws.FnExactNewWorld", spec := "fnExactNewWorld", unfollowed := true, recurses := true, apart := false, narrowed := true }
def FnExactNewWorldUptoSaid : Prop := fnExactNewWorldUptoRow.holds Tryz.pinned (OpenSpec.upto fnExactNewWorldSpec)

/-- 'laws.FnExactPush', WHERE WHAT IT READS IS OF BULK AT MOST 1048576: true; the input reads as it did. -/
def fnExactPushUptoRow : OpenClaim := { program := "ytfnedoiplblldaagreat", sum := "6823375155764322480c4c9325673dd6fdecdad1984316f5d6fdfb7eecfea719", func := "loop.example/g00591/laws.FnExactPush", spec := "fnExactPush", unfollowed := true, recurses := true, apart := false, narrowed := true }
def FnExactPushUptoSaid : Prop := fnExactPushUptoRow.holds Tryz.pinned (OpenSpec.upto fnExactPushSpec)

/-- 'laws.FnExactMakeObject', WHERE WHAT IT READS IS OF BULK AT MOST 1048576: true; the input reads as it did. -/
def fnExactMakeObjectUptoRow : OpenClaim := { program := "ytfnedoiplblldaagreat", sum := "6823375155764322480c4c9325673dd6fdecdad1984316f5d6fdfb7eecfea719", func := "loop.example/g00591/laws.FnExactMakeObject", spec := "fnExactMakeObject", unfollowed := true, recurses := true, apart := false, narrowed := true }
def FnExactMakeObjectUptoSaid : Prop := fnExactMakeObjectUptoRow.holds Tryz.pinned (OpenSpec.upto fnExactMakeObjectSpec)

/-- 'laws.FnExactJoinLink', WHERE WHAT IT READS IS OF BULK AT MOST 1048576: true; the input reads as it did. -/
def fnExactJoinLinkUptoRow : OpenClaim := { program := "ytfnedoiplblldaagreat", sum := "6823375155764322480c4c9325673dd6fdecdad1984316f5d6fdfb7eecfea719", func := "loop.example/g00591/laws.FnExactJoinLink", spec := "fnExactJoinLink", unfollowed := true, recurses := true, apart := false, narrowed := true }
def FnExactJoinLinkUptoSaid : Prop := fnExactJoinLinkUptoRow.holds Tryz.pinned (OpenSpec.upto fnExactJoinLinkSpec)

/-- 'laws.FnExactToWire', WHERE WHAT IT READS IS OF BULK AT MOST 1048576: true; the input reads as it did. -/
def fnExactToWireUptoRow : OpenClaim := { program := "ytfnedoiplblldaagreat", sum := "6823375155764322480c4c9325673dd6fdecdad1984316f5d6fdfb7eecfea719", func := "loop.example/g00591/laws.FnExactToWire", spec := "fnExactToWire", unfollowed := true, recurses := true, apart := false, narrowed := true }
def FnExactToWireUptoSaid : Prop := fnExactToWireUptoRow.holds Tryz.pinned (OpenSpec.upto fnExactToWireSpec)

/-- 'laws.FnExactToWires', WHERE WHAT IT READS IS OF BULK AT MOST 1048576: true; the input reads as it did. -/
def fnExactToWiresUptoRow : OpenClaim := { program := "ytfnedoiplblldaagreat", sum := "6823375155764322480c4c9325673dd6fdecdad1984316f5d6fdfb7eecfea719", func := "loop.example/g00591/laws.FnExactToWires", spec := "fnExactToWires", unfollowed := true, recurses := true, apart := false, narrowed := true }
def FnExactToWiresUptoSaid : Prop := fnExactToWiresUptoRow.holds Tryz.pinned (OpenSpec.upto fnExactToWiresSpec)

end Rows
end Go.Proofs.YtfnedoiplblldaaGreat
