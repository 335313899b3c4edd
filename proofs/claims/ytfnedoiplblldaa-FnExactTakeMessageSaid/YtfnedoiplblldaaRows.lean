/-
  No cell of these rows narrows 'for every input' (looked for: loops, veiled, ifaces, maps, wideKeys, modest, calm, conditions, laid).
  DERIVED. THE GIVEN ROWS OF THIS SEAT. 4 by the template 'for every input the law returns true; each argument reads behind the call as it read before'; 0 by the template 'total and deterministic' (their statements: YtfnedoiplblldaaTotals.lean).
  GIVEN WITH THE SEED: the statements are not yours to turn. If you find one false, say at which input.
  Laid BY PROGRAM, IN A SANDBOX (cutbox-rows.mjs): the forced cells as the released guide's own fill.sh prints them over the translation 7ab3082c039d3c97… (all of the seat's roots in one cut). By AI agents, Wed Nov 11 2026. No macro, syntax, notation, axiom, sorry.
-/
import Derived.Test.YtfnedoiplblldaaChecked
import GoSem.Claim
import GoSem.ClaimJoined
import GoSem.ClaimMapViews
import Derived.JoinedTies
import Derived.KernelRfl
namespace Go.Proofs.Ytfnedoiplblldaa
/- THE CELL 'sum', in the pinned program and in every row, IS THE sha256 OF THE DUMP (.gsa) THAT YtfnedoiplblldaaProg.lean LOADS. Nothing in Lean hashes anything: it is a label: what it is worth is what the hold of that sum in a sandbox is worth. -/
noncomputable def Try.pinned : Pinned := { name := "ytfnedoiplblldaa", sum := "7ab3082c039d3c97eb7723aaed68d49c7faa56f6dd65d881cb213dd517dbd2aa", checked := Try.checked }
namespace Rows
def none {H : Type} : Left H := { results := [], args := [] }

/-- 'laws.FnExactNewVat': WHATEVER THE INPUT: true; the input reads as it did. -/
def fnExactNewVatSpec : ChangeSpec := { name := "fnExactNewVat", fn := fun _ => fun
  | [d1, d2, d3] => { results := [.lit (.bool true)], args := [d1, d2, d3] }
  | _ => none }
def fnExactNewVatRow : OpenClaim := { program := "ytfnedoiplblldaa", sum := "7ab3082c039d3c97eb7723aaed68d49c7faa56f6dd65d881cb213dd517dbd2aa", func := "loop.example/g00591/laws.FnExactNewVat", spec := "fnExactNewVat", unfollowed := true, recurses := true, apart := false }
def FnExactNewVatSaid : Prop := fnExactNewVatRow.holds Try.pinned (OpenSpec.ofChange fnExactNewVatSpec)

/-- ITS FALSE NEIGHBOUR: 'it returns false'. Refute it at one input. -/
def fnExactNewVatWrong : ChangeSpec := { name := "fnExactNewVat", fn := fun _ => fun
  | [d1, d2, d3] => { results := [.lit (.bool false)], args := [d1, d2, d3] }
  | _ => none }
def FnExactNewVatWrongFalsely : Prop := fnExactNewVatRow.holds Try.pinned (OpenSpec.ofChange fnExactNewVatWrong)

/-- 'laws.FnExactAddEntity': WHATEVER THE INPUT: true; the input reads as it did. -/
def fnExactAddEntitySpec : ChangeSpec := { name := "fnExactAddEntity", fn := fun _ => fun
  | [d1, d2] => { results := [.lit (.bool true)], args := [d1, d2] }
  | _ => none }
def fnExactAddEntityRow : OpenClaim := { program := "ytfnedoiplblldaa", sum := "7ab3082c039d3c97eb7723aaed68d49c7faa56f6dd65d881cb213dd517dbd2aa", func := "loop.example/g00591/laws.FnExactAddEntity", spec := "fnExactAddEntity", apart := false }
def FnExactAddEntitySaid : Prop := fnExactAddEntityRow.holds Try.pinned (OpenSpec.ofChange fnExactAddEntitySpec)

/-- ITS FALSE NEIGHBOUR: 'it returns false'. Refute it at one input. -/
def fnExactAddEntityWrong : ChangeSpec := { name := "fnExactAddEntity", fn := fun _ => fun
  | [d1, d2] => { results := [.lit (.bool false)], args := [d1, d2] }
  | _ => none }
def FnExactAddEntityWrongFalsely : Prop := fnExactAddEntityRow.holds Try.pinned (OpenSpec.ofChange fnExactAddEntityWrong)

/-- 'laws.FnExactTakeMessage': WHATEVER THE INPUT: true; the input reads as it did. -/
def fnExactTakeMessageSpec : ChangeSpec := { name := "fnExactTakeMessage", fn := fun _ => fun
  | [d1, d2, d3] => { results := [.lit (.bool true)], args := [d1, d2, d3] }
  | _ => none }
def fnExactTakeMessageRow : OpenClaim := { program := "ytfnedoiplblldaa", sum := "7ab3082c039d3c97eb7723aaed68d49c7faa56f6dd65d881cb213dd517dbd2aa", func := "loop.example/g00591/laws.FnExactTakeMessage", spec := "fnExactTakeMessage", unfollowed := true, recurses := true, apart := false }
def FnExactTakeMessageSaid : Prop := fnExactTakeMessageRow.holds Try.pinned (OpenSpec.ofChange fnExactTakeMessageSpec)

/-- ITS FALSE NEIGHBOUR: 'it returns false'. Refute it at one input. -/
def fnExactTakeMessageWrong : ChangeSpec := { name := "fnExactTakeMessage", fn := fun _ => fun
  | [d1, d2, d3] => { results := [.lit (.bool false)], args := [d1, d2, d3] }
  | _ => none }
def FnExactTakeMessageWrongFalsely : Prop := fnExactTakeMessageRow.holds Try.pinned (OpenSpec.ofChange fnExactTakeMessageWrong)

/-- 'laws.FnExactMethodOf': WHATEVER THE INPUT: true; the input reads as it did. -/
def fnExactMethodOfSpec : ChangeSpec := { name := "fnExactMethodOf", fn := fun _ => fun
  | [d1, d2, d3] => { results := [.lit (.bool true)], args := [d1, d2, d3] }
  | _ => none }
def fnExactMethodOfRow : OpenClaim := { program := "ytfnedoiplblldaa", sum := "7ab3082c039d3c97eb7723aaed68d49c7faa56f6dd65d881cb213dd517dbd2aa", func := "loop.example/g00591/laws.FnExactMethodOf", spec := "fnExactMethodOf", apart := false }
def FnExactMethodOfSaid : Prop := fnExactMethodOfRow.holds Try.pinned (OpenSpec.ofChange fnExactMethodOfSpec)

/-- ITS FALSE NEIGHBOUR: 'it returns false'. Refute it at one input. -/
def fnExactMethodOfWrong : ChangeSpec := { name := "fnExactMethodOf", fn := fun _ => fun
  | [d1, d2, d3] => { results := [.lit (.bool false)], args := [d1, d2, d3] }
  | _ => none }
def FnExactMethodOfWrongFalsely : Prop := fnExactMethodOfRow.holds Try.pinned (OpenSpec.ofChange fnExactMethodOfWrong)

/- THE SECOND FORM. 'bulk': how many values and letters a reading holds, each counted each time it is reached (what is shared counts as often as it is met; a slice's spare places count too). A statement '..UptoSaid' is the law's where the arguments, and the package variables that the reading takes, are together of bulk at most 1048576: NARROWER than '..Said'. Prove '..Said' where nothing that the law and all that it calls make is longer than what came in: it says more and counts as full. Else prove '..UptoSaid'. A law counts once. -/
mutual
def uptoBulk {H : Type} : DataW H → Nat
  | .lit (.string bytes) => bytes.length + 1
  | .lit _ => 1
  | .nil => 1
  | .ptr d => uptoBulk d + 1
  | .slice elems spare => uptoBulkAll elems + uptoBulkAll spare + 1
  | .agg parts => uptoBulkAll parts + 1
  | .iface _ d => uptoBulk d + 1
  | .map entries => uptoBulkEntries entries + 1
  | .held _ => 1
def uptoBulkAll {H : Type} : List (DataW H) → Nat
  | [] => 0
  | d :: r => uptoBulk d + uptoBulkAll r
def uptoBulkEntries {H : Type} : List (Lit × DataW H) → Nat
  | [] => 0
  | x :: r => uptoBulkEntry x + uptoBulkEntries r
def uptoBulkEntry {H : Type} : Lit × DataW H → Nat
  | (.string bytes, d) => bytes.length + uptoBulk d + 1
  | (_, d) => uptoBulk d + 1
 end
def uptoSmall : (H : Type) → List (DataW H) → Bool := fun _ ds => decide (uptoBulkAll ds ≤ 1048576)
def OpenSpec.upto (s : _root_.Go.ChangeSpec) : _root_.Go.OpenSpec := { _root_.Go.OpenSpec.ofChange s with cond := some uptoSmall }

/-- 'laws.FnExactNewVat', WHERE WHAT IT READS IS OF BULK AT MOST 1048576: true; the input reads as it did. -/
def fnExactNewVatUptoRow : OpenClaim := { program := "ytfnedoiplblldaa", sum := "7ab3082c039d3c97eb7723aaed68d49c7faa56f6dd65d881cb213dd517dbd2aa", func := "loop.example/g00591/laws.FnExactNewVat", spec := "fnExactNewVat", unfollowed := true, recurses := true, apart := false, narrowed := true }
def FnExactNewVatUptoSaid : Prop := fnExactNewVatUptoRow.holds Try.pinned (OpenSpec.upto fnExactNewVatSpec)

/-- 'laws.FnExactAddEntity', WHERE WHAT IT READS IS OF BULK AT MOST 1048576: true; the input reads as it did. -/
def fnExactAddEntityUptoRow : OpenClaim := { program := "ytfnedoiplblldaa", sum := "7ab3082c039d3c97eb7723aaed68d49c7faa56f6dd65d881cb213dd517dbd2aa", func := "loop.example/g00591/laws.FnExactAddEntity", spec := "fnExactAddEntity", apart := false, narrowed := true }
def FnExactAddEntityUptoSaid : Prop := fnExactAddEntityUptoRow.holds Try.pinned (OpenSpec.upto fnExactAddEntitySpec)

/-- 'laws.FnExactTakeMessage', WHERE WHAT IT READS IS OF BULK AT MOST 1048576: true; the input reads as it did. -/
def fnExactTakeMessageUptoRow : OpenClaim := { program := "ytfnedoiplblldaa", sum := "7ab3082c039d3c97eb7723aaed68d49c7faa56f6dd65d881cb213dd517dbd2aa", func := "loop.example/g00591/laws.FnExactTakeMessage", spec := "fnExactTakeMessage", unfollowed := true, recurses := true, apart := false, narrowed := true }
def FnExactTakeMessageUptoSaid : Prop := fnExactTakeMessageUptoRow.holds Try.pinned (OpenSpec.upto fnExactTakeMessageSpec)

/-- 'laws.FnExactMethodOf', WHERE WHAT IT READS IS OF BULK AT MOST 1048576: true; the input reads as it did. -/
def fnExactMethodOfUptoRow : OpenClaim := { program := "ytfnedoiplblldaa", sum := "7ab3082c039d3c97eb7723aaed68d49c7faa56f6dd65d881cb213dd517dbd2aa", func := "loop.example/g00591/laws.FnExactMethodOf", spec := "fnExactMethodOf", apart := false, narrowed := true }
def FnExactMethodOfUptoSaid : Prop := fnExactMethodOfUptoRow.holds Try.pinned (OpenSpec.upto fnExactMethodOfSpec)

end Rows
end Go.Proofs.Ytfnedoiplblldaa
