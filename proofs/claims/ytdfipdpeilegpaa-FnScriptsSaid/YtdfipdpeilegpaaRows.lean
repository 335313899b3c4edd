/-
  No cell of these rows narrows 'for every input' (looked for: loops, veiled, ifaces, maps, wideKeys, modest, calm, conditions, laid).
  DERIVED. THE GIVEN ROWS OF THIS SEAT. 3 by the template 'for every input the law returns true; each argument reads behind the call as it read before'; 0 by the template 'total and deterministic' (their statements: YtdfipdpeilegpaaTotals.lean).
  GIVEN WITH THE SEED: the statements are not yours to turn. If you find one false, say at which input.
  Laid BY PROGRAM, IN A SANDBOX (cutbox-rows.mjs): the forced cells as the released guide's own fill.sh prints them over the translation 86d2dfa9632b3dc2… (all of the seat's roots in one cut). By AI agents, Wed Nov 11 2026. No macro, syntax, notation, axiom, sorry.
-/
import Derived.Test.YtdfipdpeilegpaaChecked
import GoSem.Claim
import GoSem.ClaimJoined
import GoSem.ClaimMapViews
import Derived.JoinedTies
import Derived.KernelRfl
namespace Go.Proofs.Ytdfipdpeilegpaa
/- THE CELL 'sum', in the pinned program and in every row, IS THE sha256 OF THE DUMP (.gsa) THAT YtdfipdpeilegpaaProg.lean LOADS. Nothing in Lean hashes anything: it is a label: what it is worth is what the hold of that sum in a sandbox is worth. -/
noncomputable def Try.pinned : Pinned := { name := "ytdfipdpeilegpaa", sum := "86d2dfa9632b3dc2d15cadfc0ea5c49c352929e2aa2c20b28ed3320c2ab186be", checked := Try.checked }
namespace Rows
def none {H : Type} : Left H := { results := [], args := [] }

/-- 'laws.FnNetwork': WHATEVER THE INPUT: true; the input reads as it did. -/
def fnNetworkSpec : ChangeSpec := { name := "fnNetwork", fn := fun _ => fun
  | [d] => { results := [.lit (.bool true)], args := [d] }
  | _ => none }
def fnNetworkRow : OpenClaim := { program := "ytdfipdpeilegpaa", sum := "86d2dfa9632b3dc2d15cadfc0ea5c49c352929e2aa2c20b28ed3320c2ab186be", func := "loop.example/g00591/laws.FnNetwork", spec := "fnNetwork", unfollowed := true, recurses := true, apart := false }
def FnNetworkSaid : Prop := fnNetworkRow.holds Try.pinned (OpenSpec.ofChange fnNetworkSpec)

/-- ITS FALSE NEIGHBOUR: 'it returns false'. Refute it at one input. -/
def fnNetworkWrong : ChangeSpec := { name := "fnNetwork", fn := fun _ => fun
  | [d] => { results := [.lit (.bool false)], args := [d] }
  | _ => none }
def FnNetworkWrongFalsely : Prop := fnNetworkRow.holds Try.pinned (OpenSpec.ofChange fnNetworkWrong)

/-- 'laws.FnScripts': WHATEVER THE INPUT: true; the input reads as it did. -/
def fnScriptsSpec : ChangeSpec := { name := "fnScripts", fn := fun _ => fun
  | [d] => { results := [.lit (.bool true)], args := [d] }
  | _ => none }
def fnScriptsRow : OpenClaim := { program := "ytdfipdpeilegpaa", sum := "86d2dfa9632b3dc2d15cadfc0ea5c49c352929e2aa2c20b28ed3320c2ab186be", func := "loop.example/g00591/laws.FnScripts", spec := "fnScripts", unfollowed := true, recurses := true, apart := false }
def FnScriptsSaid : Prop := fnScriptsRow.holds Try.pinned (OpenSpec.ofChange fnScriptsSpec)

/-- ITS FALSE NEIGHBOUR: 'it returns false'. Refute it at one input. -/
def fnScriptsWrong : ChangeSpec := { name := "fnScripts", fn := fun _ => fun
  | [d] => { results := [.lit (.bool false)], args := [d] }
  | _ => none }
def FnScriptsWrongFalsely : Prop := fnScriptsRow.holds Try.pinned (OpenSpec.ofChange fnScriptsWrong)

/-- 'laws.FnVats': WHATEVER THE INPUT: true; the input reads as it did. -/
def fnVatsSpec : ChangeSpec := { name := "fnVats", fn := fun _ => fun
  | [d] => { results := [.lit (.bool true)], args := [d] }
  | _ => none }
def fnVatsRow : OpenClaim := { program := "ytdfipdpeilegpaa", sum := "86d2dfa9632b3dc2d15cadfc0ea5c49c352929e2aa2c20b28ed3320c2ab186be", func := "loop.example/g00591/laws.FnVats", spec := "fnVats", unfollowed := true, recurses := true, apart := false }
def FnVatsSaid : Prop := fnVatsRow.holds Try.pinned (OpenSpec.ofChange fnVatsSpec)

/-- ITS FALSE NEIGHBOUR: 'it returns false'. Refute it at one input. -/
def fnVatsWrong : ChangeSpec := { name := "fnVats", fn := fun _ => fun
  | [d] => { results := [.lit (.bool false)], args := [d] }
  | _ => none }
def FnVatsWrongFalsely : Prop := fnVatsRow.holds Try.pinned (OpenSpec.ofChange fnVatsWrong)

/- THE SECOND FORM. 'bulk': how many values and letters a reading holds, each counted each time it is reached (what is shared counts as often as it is met; a slice's spare places count too). A statement '..UptoSaid' is the law's where the arguments, and the package variables that the reading takes, are together of bulk at most 1048576: NARROWER than '..Said'. Prove '..Said' where nothing that the law and all that it calls make is longer than what came in: it says more and counts as full. Else prove '..UptoSaid'. A law counts once. -/
mutual
def uptoBulk {H : Type} : DataW H → Nat
  | .lit (.string bytes) => bytes.length + 1
  | .lit _ => 1
  | .nil => 1
  | .ptr d => uptoBulk d + 1
  | .slice elems spare => uptoBulkAll elems + uptoBulkAll spare + 1
  | .agg parts => uptoBulkAll parts + 1
  | .iface _ d => uptoBulk d + 1
  | .map entries => uptoBulkEntries entries + 1
  | .held _ => 1
def uptoBulkAll {H : Type} : List (DataW H) → Nat
  | [] => 0
  | d :: r => uptoBulk d + uptoBulkAll r
def uptoBulkEntries {H : Type} : List (Lit × DataW H) → Nat
  | [] => 0
  | x :: r => uptoBulkEntry x + uptoBulkEntries r
def uptoBulkEntry {H : Type} : Lit × DataW H → Nat
  | (.string bytes, d) => bytes.length + uptoBulk d + 1
  | (_, d) => uptoBulk d + 1
 end
def uptoSmall : (H : Type) → List (DataW H) → Bool := fun _ ds => decide (uptoBulkAll ds ≤ 1048576)
def OpenSpec.upto (s : _root_.Go.ChangeSpec) : _root_.Go.OpenSpec := { _root_.Go.OpenSpec.ofChange s with cond := some uptoSmall }

/-- 'laws.FnNetwork', WHERE WHAT IT READS IS OF BULK AT MOST 1048576: true; the input reads as it did. -/
def fnNetworkUptoRow : OpenClaim := { program := "ytdfipdpeilegpaa", sum := "86d2dfa9632b3dc2d15cadfc0ea5c49c352929e2aa2c20b28ed3320c2ab186be", func := "loop.example/g00591/laws.FnNetwork", spec := "fnNetwork", unfollowed := true, recurses := true, apart := false, narrowed := true }
def FnNetworkUptoSaid : Prop := fnNetworkUptoRow.holds Try.pinned (OpenSpec.upto fnNetworkSpec)

/-- 'laws.FnScripts', WHERE WHAT IT READS IS OF BULK AT MOST 1048576: true; the input reads as it did. -/
def fnScriptsUptoRow : OpenClaim := { program := "ytdfipdpeilegpaa", sum := "86d2dfa9632b3dc2d15cadfc0ea5c49c352929e2aa2c20b28ed3320c2ab186be", func := "loop.example/g00591/laws.FnScripts", spec := "fnScripts", unfollowed := true, recurses := true, apart := false, narrowed := true }
def FnScriptsUptoSaid : Prop := fnScriptsUptoRow.holds Try.pinned (OpenSpec.upto fnScriptsSpec)

/-- 'laws.FnVats', WHERE WHAT IT READS IS OF BULK AT MOST 1048576: true; the input reads as it did. -/
def fnVatsUptoRow : OpenClaim := { program := "ytdfipdpeilegpaa", sum := "86d2dfa9632b3dc2d15cadfc0ea5c49c352929e2aa2c20b28ed3320c2ab186be", func := "loop.example/g00591/laws.FnVats", spec := "fnVats", unfollowed := true, recurses := true, apart := false, narrowed := true }
def FnVatsUptoSaid : Prop := fnVatsUptoRow.holds Try.pinned (OpenSpec.upto fnVatsSpec)

end Rows
end Go.Proofs.Ytdfipdpeilegpaa
