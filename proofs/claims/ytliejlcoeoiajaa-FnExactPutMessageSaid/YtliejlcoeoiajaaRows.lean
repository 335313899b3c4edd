/-
  No cell of these rows narrows 'for every input' (looked for: loops, veiled, ifaces, maps, wideKeys, modest, calm, conditions, laid).
  DERIVED. THE GIVEN ROWS OF THIS SEAT. 11 by the template 'for every input the law returns true; each argument reads behind the call as it read before'; 0 by the template 'total and deterministic' (their statements: YtliejlcoeoiajaaTotals.lean).
  GIVEN WITH THE SEED: the statements are not yours to turn. If you find one false, say at which input.
  Laid BY PROGRAM, IN A SANDBOX (cutbox-rows.mjs): the forced cells as the released guide's own fill.sh prints them over the translation 5990da876f0efb5a… (all of the seat's roots in one cut). By AI agents, Wed Nov 11 2026. No macro, syntax, notation, axiom, sorry.
-/
import Derived.Test.YtliejlcoeoiajaaChecked
import GoSem.Claim
import GoSem.ClaimJoined
import GoSem.ClaimMapViews
import Derived.JoinedTies
import Derived.KernelRfl
namespace Go.Proofs.Ytliejlcoeoiajaa
/- THE CELL 'sum', in the pinned program and in every row, IS THE sha256 OF THE DUMP (.gsa) THAT YtliejlcoeoiajaaProg.lean LOADS. Nothing in Lean hashes anything: it is a label: what it is worth is what the hold of that sum in a sandbox is worth. -/
noncomputable def Try.pinned : Pinned := { name := "ytliejlcoeoiajaa", sum := "5990da876f0efb5a77d8e0030d003300d3af346db61d8ab3ece8ac3c0aa66cc3", checked := Try.checked }
namespace Rows
def none {H : Type} : Left H := { results := [], args := [] }

/-- 'laws.FnExactHasCut': WHATEVER THE INPUT: true; the input reads as it did. -/
def fnExactHasCutSpec : ChangeSpec := { name := "fnExactHasCut", fn := fun _ => fun
  | [d] => { results := [.lit (.bool true)], args := [d] }
  | _ => none }
def fnExactHasCutRow : OpenClaim := { program := "ytliejlcoeoiajaa", sum := "5990da876f0efb5a77d8e0030d003300d3af346db61d8ab3ece8ac3c0aa66cc3", func := "loop.example/g00591/laws.FnExactHasCut", spec := "fnExactHasCut", unfollowed := true, recurses := true, apart := false }
def FnExactHasCutSaid : Prop := fnExactHasCutRow.holds Try.pinned (OpenSpec.ofChange fnExactHasCutSpec)

/-- ITS FALSE NEIGHBOUR: 'it returns false'. Refute it at one input. -/
def fnExactHasCutWrong : ChangeSpec := { name := "fnExactHasCut", fn := fun _ => fun
  | [d] => { results := [.lit (.bool false)], args := [d] }
  | _ => none }
def FnExactHasCutWrongFalsely : Prop := fnExactHasCutRow.holds Try.pinned (OpenSpec.ofChange fnExactHasCutWrong)

/-- 'laws.FnExactReleasesOf': WHATEVER THE INPUT: true; the input reads as it did. -/
def fnExactReleasesOfSpec : ChangeSpec := { name := "fnExactReleasesOf", fn := fun _ => fun
  | [d1, d2] => { results := [.lit (.bool true)], args := [d1, d2] }
  | _ => none }
def fnExactReleasesOfRow : OpenClaim := { program := "ytliejlcoeoiajaa", sum := "5990da876f0efb5a77d8e0030d003300d3af346db61d8ab3ece8ac3c0aa66cc3", func := "loop.example/g00591/laws.FnExactReleasesOf", spec := "fnExactReleasesOf", apart := false }
def FnExactReleasesOfSaid : Prop := fnExactReleasesOfRow.holds Try.pinned (OpenSpec.ofChange fnExactReleasesOfSpec)

/-- ITS FALSE NEIGHBOUR: 'it returns false'. Refute it at one input. -/
def fnExactReleasesOfWrong : ChangeSpec := { name := "fnExactReleasesOf", fn := fun _ => fun
  | [d1, d2] => { results := [.lit (.bool false)], args := [d1, d2] }
  | _ => none }
def FnExactReleasesOfWrongFalsely : Prop := fnExactReleasesOfRow.holds Try.pinned (OpenSpec.ofChange fnExactReleasesOfWrong)

/-- 'laws.FnExactIsAsked': WHATEVER THE INPUT: true; the input reads as it did. -/
def fnExactIsAskedSpec : ChangeSpec := { name := "fnExactIsAsked", fn := fun _ => fun
  | [d1, d2] => { results := [.lit (.bool true)], args := [d1, d2] }
  | _ => none }
def fnExactIsAskedRow : OpenClaim := { program := "ytliejlcoeoiajaa", sum := "5990da876f0efb5a77d8e0030d003300d3af346db61d8ab3ece8ac3c0aa66cc3", func := "loop.example/g00591/laws.FnExactIsAsked", spec := "fnExactIsAsked", unfollowed := true, recurses := true, apart := false }
def FnExactIsAskedSaid : Prop := fnExactIsAskedRow.holds Try.pinned (OpenSpec.ofChange fnExactIsAskedSpec)

/-- ITS FALSE NEIGHBOUR: 'it returns false'. Refute it at one input. -/
def fnExactIsAskedWrong : ChangeSpec := { name := "fnExactIsAsked", fn := fun _ => fun
  | [d1, d2] => { results := [.lit (.bool false)], args := [d1, d2] }
  | _ => none }
def FnExactIsAskedWrongFalsely : Prop := fnExactIsAskedRow.holds Try.pinned (OpenSpec.ofChange fnExactIsAskedWrong)

/-- 'laws.FnExactMentionsOf': WHATEVER THE INPUT: true; the input reads as it did. -/
def fnExactMentionsOfSpec : ChangeSpec := { name := "fnExactMentionsOf", fn := fun _ => fun
  | [d1, d2] => { results := [.lit (.bool true)], args := [d1, d2] }
  | _ => none }
def fnExactMentionsOfRow : OpenClaim := { program := "ytliejlcoeoiajaa", sum := "5990da876f0efb5a77d8e0030d003300d3af346db61d8ab3ece8ac3c0aa66cc3", func := "loop.example/g00591/laws.FnExactMentionsOf", spec := "fnExactMentionsOf", apart := false }
def FnExactMentionsOfSaid : Prop := fnExactMentionsOfRow.holds Try.pinned (OpenSpec.ofChange fnExactMentionsOfSpec)

/-- ITS FALSE NEIGHBOUR: 'it returns false'. Refute it at one input. -/
def fnExactMentionsOfWrong : ChangeSpec := { name := "fnExactMentionsOf", fn := fun _ => fun
  | [d1, d2] => { results := [.lit (.bool false)], args := [d1, d2] }
  | _ => none }
def FnExactMentionsOfWrongFalsely : Prop := fnExactMentionsOfRow.holds Try.pinned (OpenSpec.ofChange fnExactMentionsOfWrong)

/-- 'laws.FnNetwork': WHATEVER THE INPUT: true; the input reads as it did. -/
def fnNetworkSpec : ChangeSpec := { name := "fnNetwork", fn := fun _ => fun
  | [d] => { results := [.lit (.bool true)], args := [d] }
  | _ => none }
def fnNetworkRow : OpenClaim := { program := "ytliejlcoeoiajaa", sum := "5990da876f0efb5a77d8e0030d003300d3af346db61d8ab3ece8ac3c0aa66cc3", func := "loop.example/g00591/laws.FnNetwork", spec := "fnNetwork", unfollowed := true, recurses := true, apart := false }
def FnNetworkSaid : Prop := fnNetworkRow.holds Try.pinned (OpenSpec.ofChange fnNetworkSpec)

/-- ITS FALSE NEIGHBOUR: 'it returns false'. Refute it at one input. -/
def fnNetworkWrong : ChangeSpec := { name := "fnNetwork", fn := fun _ => fun
  | [d] => { results := [.lit (.bool false)], args := [d] }
  | _ => none }
def FnNetworkWrongFalsely : Prop := fnNetworkRow.holds Try.pinned (OpenSpec.ofChange fnNetworkWrong)

/-- 'laws.FnExactMethodOf': WHATEVER THE INPUT: true; the input reads as it did. -/
def fnExactMethodOfSpec : ChangeSpec := { name := "fnExactMethodOf", fn := fun _ => fun
  | [d1, d2, d3] => { results := [.lit (.bool true)], args := [d1, d2, d3] }
  | _ => none }
def fnExactMethodOfRow : OpenClaim := { program := "ytliejlcoeoiajaa", sum := "5990da876f0efb5a77d8e0030d003300d3af346db61d8ab3ece8ac3c0aa66cc3", func := "loop.example/g00591/laws.FnExactMethodOf", spec := "fnExactMethodOf", apart := false }
def FnExactMethodOfSaid : Prop := fnExactMethodOfRow.holds Try.pinned (OpenSpec.ofChange fnExactMethodOfSpec)

/-- ITS FALSE NEIGHBOUR: 'it returns false'. Refute it at one input. -/
def fnExactMethodOfWrong : ChangeSpec := { name := "fnExactMethodOf", fn := fun _ => fun
  | [d1, d2, d3] => { results := [.lit (.bool false)], args := [d1, d2, d3] }
  | _ => none }
def FnExactMethodOfWrongFalsely : Prop := fnExactMethodOfRow.holds Try.pinned (OpenSpec.ofChange fnExactMethodOfWrong)

/-- 'laws.FnScripts': WHATEVER THE INPUT: true; the input reads as it did. -/
def fnScriptsSpec : ChangeSpec := { name := "fnScripts", fn := fun _ => fun
  | [d] => { results := [.lit (.bool true)], args := [d] }
  | _ => none }
def fnScriptsRow : OpenClaim := { program := "ytliejlcoeoiajaa", sum := "5990da876f0efb5a77d8e0030d003300d3af346db61d8ab3ece8ac3c0aa66cc3", func := "loop.example/g00591/laws.FnScripts", spec := "fnScripts", unfollowed := true, recurses := true, apart := false }
def FnScriptsSaid : Prop := fnScriptsRow.holds Try.pinned (OpenSpec.ofChange fnScriptsSpec)

/-- ITS FALSE NEIGHBOUR: 'it returns false'. Refute it at one input. -/
def fnScriptsWrong : ChangeSpec := { name := "fnScripts", fn := fun _ => fun
  | [d] => { results := [.lit (.bool false)], args := [d] }
  | _ => none }
def FnScriptsWrongFalsely : Prop := fnScriptsRow.holds Try.pinned (OpenSpec.ofChange fnScriptsWrong)

/-- 'laws.FnExactMessagesTo': WHATEVER THE INPUT: true; the input reads as it did. -/
def fnExactMessagesToSpec : ChangeSpec := { name := "fnExactMessagesTo", fn := fun _ => fun
  | [d1, d2, d3] => { results := [.lit (.bool true)], args := [d1, d2, d3] }
  | _ => none }
def fnExactMessagesToRow : OpenClaim := { program := "ytliejlcoeoiajaa", sum := "5990da876f0efb5a77d8e0030d003300d3af346db61d8ab3ece8ac3c0aa66cc3", func := "loop.example/g00591/laws.FnExactMessagesTo", spec := "fnExactMessagesTo", unfollowed := true, recurses := true, apart := false }
def FnExactMessagesToSaid : Prop := fnExactMessagesToRow.holds Try.pinned (OpenSpec.ofChange fnExactMessagesToSpec)

/-- ITS FALSE NEIGHBOUR: 'it returns false'. Refute it at one input. -/
def fnExactMessagesToWrong : ChangeSpec := { name := "fnExactMessagesTo", fn := fun _ => fun
  | [d1, d2, d3] => { results := [.lit (.bool false)], args := [d1, d2, d3] }
  | _ => none }
def FnExactMessagesToWrongFalsely : Prop := fnExactMessagesToRow.holds Try.pinned (OpenSpec.ofChange fnExactMessagesToWrong)

/-- 'laws.FnExactClearChannel': WHATEVER THE INPUT: true; the input reads as it did. -/
def fnExactClearChannelSpec : ChangeSpec := { name := "fnExactClearChannel", fn := fun _ => fun
  | [d1, d2, d3] => { results := [.lit (.bool true)], args := [d1, d2, d3] }
  | _ => none }
def fnExactClearChannelRow : OpenClaim := { program := "ytliejlcoeoiajaa", sum := "5990da876f0efb5a77d8e0030d003300d3af346db61d8ab3ece8ac3c0aa66cc3", func := "loop.example/g00591/laws.FnExactClearChannel", spec := "fnExactClearChannel", apart := false }
def FnExactClearChannelSaid : Prop := fnExactClearChannelRow.holds Try.pinned (OpenSpec.ofChange fnExactClearChannelSpec)

/-- ITS FALSE NEIGHBOUR: 'it returns false'. Refute it at one input. -/
def fnExactClearChannelWrong : ChangeSpec := { name := "fnExactClearChannel", fn := fun _ => fun
  | [d1, d2, d3] => { results := [.lit (.bool false)], args := [d1, d2, d3] }
  | _ => none }
def FnExactClearChannelWrongFalsely : Prop := fnExactClearChannelRow.holds Try.pinned (OpenSpec.ofChange fnExactClearChannelWrong)

/-- 'laws.FnExactPutMessage': WHATEVER THE INPUT: true; the input reads as it did. -/
def fnExactPutMessageSpec : ChangeSpec := { name := "fnExactPutMessage", fn := fun _ => fun
  | [d1, d2, d3, d4] => { results := [.lit (.bool true)], args := [d1, d2, d3, d4] }
  | _ => none }
def fnExactPutMessageRow : OpenClaim := { program := "ytliejlcoeoiajaa", sum := "5990da876f0efb5a77d8e0030d003300d3af346db61d8ab3ece8ac3c0aa66cc3", func := "loop.example/g00591/laws.FnExactPutMessage", spec := "fnExactPutMessage", unfollowed := true, recurses := true, apart := false }
def FnExactPutMessageSaid : Prop := fnExactPutMessageRow.holds Try.pinned (OpenSpec.ofChange fnExactPutMessageSpec)

/-- ITS FALSE NEIGHBOUR: 'it returns false'. Refute it at one input. -/
def fnExactPutMessageWrong : ChangeSpec := { name := "fnExactPutMessage", fn := fun _ => fun
  | [d1, d2, d3, d4] => { results := [.lit (.bool false)], args := [d1, d2, d3, d4] }
  | _ => none }
def FnExactPutMessageWrongFalsely : Prop := fnExactPutMessageRow.holds Try.pinned (OpenSpec.ofChange fnExactPutMessageWrong)

/-- 'laws.FnExactTakeMessage': WHATEVER THE INPUT: true; the input reads as it did. -/
def fnExactTakeMessageSpec : ChangeSpec := { name := "fnExactTakeMessage", fn := fun _ => fun
  | [d1, d2, d3] => { results := [.lit (.bool true)], args := [d1, d2, d3] }
  | _ => none }
def fnExactTakeMessageRow : OpenClaim := { program := "ytliejlcoeoiajaa", sum := "5990da876f0efb5a77d8e0030d003300d3af346db61d8ab3ece8ac3c0aa66cc3", func := "loop.example/g00591/laws.FnExactTakeMessage", spec := "fnExactTakeMessage", unfollowed := true, recurses := true, apart := false }
def FnExactTakeMessageSaid : Prop := fnExactTakeMessageRow.holds Try.pinned (OpenSpec.ofChange fnExactTakeMessageSpec)

/-- ITS FALSE NEIGHBOUR: 'it returns false'. Refute it at one input. -/
def fnExactTakeMessageWrong : ChangeSpec := { name := "fnExactTakeMessage", fn := fun _ => fun
  | [d1, d2, d3] => { results := [.lit (.bool false)], args := [d1, d2, d3] }
  | _ => none }
def FnExactTakeMessageWrongFalsely : Prop := fnExactTakeMessageRow.holds Try.pinned (OpenSpec.ofChange fnExactTakeMessageWrong)

/- THE SECOND FORM. 'bulk': how many values and letters a reading holds, each counted each time it is reached (what is shared counts as often as it is met; a slice's spare places count too). A statement '..UptoSaid' is the law's where the arguments, and the package variables that the reading takes, are together of bulk at most 1048576: NARROWER than '..Said'. Prove '..Said' where nothing that the law and all that it calls make is longer than what came in: it says more and counts as full. Else prove '..UptoSaid'. A law counts once. -/
mutual
def uptoBulk {H : Type} : DataW H → Nat
  | .lit (.string bytes) => bytes.length + 1
  | .lit _ => 1
  | .nil => 1
  | .ptr d => uptoBulk d + 1
  | .slice elems spare => uptoBulkAll elems + uptoBulkAll spare + 1
  | .agg parts => uptoBulkAll parts + 1
  | .iface _ d => uptoBulk d + 1
  | .map entries => uptoBulkEntries entries + 1
  | .held _ => 1
def uptoBulkAll {H : Type} : List (DataW H) → Nat
  | [] => 0
  | d :: r => uptoBulk d + uptoBulkAll r
def uptoBulkEntries {H : Type} : List (Lit × DataW H) → Nat
  | [] => 0
  | x :: r => uptoBulkEntry x + uptoBulkEntries r
def uptoBulkEntry {H : Type} : Lit × DataW H → Nat
  | (.string bytes, d) => bytes.length + uptoBulk d + 1
  | (_, d) => uptoBulk d + 1
 end
def uptoSmall : (H : Type) → List (DataW H) → Bool := fun _ ds => decide (uptoBulkAll ds ≤ 1048576)
def OpenSpec.upto (s : _root_.Go.ChangeSpec) : _root_.Go.OpenSpec := { _root_.Go.OpenSpec.ofChange s with cond := some uptoSmall }

/-- 'laws.FnExactHasCut', WHERE WHAT IT READS IS OF BULK AT MOST 1048576: true; the input reads as it did. -/
def fnExactHasCutUptoRow : OpenClaim := { program := "ytliejlcoeoiajaa", sum := "5990da876f0efb5a77d8e0030d003300d3af346db61d8ab3ece8ac3c0aa66cc3", func := "loop.example/g00591/laws.FnExactHasCut", spec := "fnExactHasCut", unfollowed := true, recurses := true, apart := false, narrowed := true }
def FnExactHasCutUptoSaid : Prop := fnExactHasCutUptoRow.holds Try.pinned (OpenSpec.upto fnExactHasCutSpec)

/-- 'laws.FnExactReleasesOf', WHERE WHAT IT READS IS OF BULK AT MOST 1048576: true; the input reads as it did. -/
def fnExactReleasesOfUptoRow : OpenClaim := { program := "ytliejlcoeoiajaa", sum := "5990da876f0efb5a77d8e0030d003300d3af346db61d8ab3ece8ac3c0aa66cc3", func := "loop.example/g00591/laws.FnExactReleasesOf", spec := "fnExactReleasesOf", apart := false, narrowed := true }
def FnExactReleasesOfUptoSaid : Prop := fnExactReleasesOfUptoRow.holds Try.pinned (OpenSpec.upto fnExactReleasesOfSpec)

/-- 'laws.FnExactIsAsked', WHERE WHAT IT READS IS OF BULK AT MOST 1048576: true; the input reads as it did. -/
def fnExactIsAskedUptoRow : OpenClaim := { program := "ytliejlcoeoiajaa", sum := "5990da876f0efb5a77d8e0030d003300d3af346db61d8ab3ece8ac3c0aa66cc3", func := "loop.example/g00591/laws.FnExactIsAsked", spec := "fnExactIsAsked", unfollowed := true, recurses := true, apart := false, narrowed := true }
def FnExactIsAskedUptoSaid : Prop := fnExactIsAskedUptoRow.holds Try.pinned (OpenSpec.upto fnExactIsAskedSpec)

/-- 'laws.FnExactMentionsOf', WHERE WHAT IT READS IS OF BULK AT MOST 1048576: true; the input reads as it did. -/
def fnExactMentionsOfUptoRow : OpenClaim := { program := "ytliejlcoeoiajaa", sum := "5990da876f0efb5a77d8e0030d003300d3af346db61d8ab3ece8ac3c0aa66cc3", func := "loop.example/g00591/laws.FnExactMentionsOf", spec := "fnExactMentionsOf", apart := false, narrowed := true }
def FnExactMentionsOfUptoSaid : Prop := fnExactMentionsOfUptoRow.holds Try.pinned (OpenSpec.upto fnExactMentionsOfSpec)

/-- 'laws.FnNetwork', WHERE WHAT IT READS IS OF BULK AT MOST 1048576: true; the input reads as it did. -/
def fnNetworkUptoRow : OpenClaim := { program := "ytliejlcoeoiajaa", sum := "5990da876f0efb5a77d8e0030d003300d3af346db61d8ab3ece8ac3c0aa66cc3", func := "loop.example/g00591/laws.FnNetwork", spec := "fnNetwork", unfollowed := true, recurses := true, apart := false, narrowed := true }
def FnNetworkUptoSaid : Prop := fnNetworkUptoRow.holds Try.pinned (OpenSpec.upto fnNetworkSpec)

/-- 'laws.FnExactMethodOf', WHERE WHAT IT READS IS OF BULK AT MOST 1048576: true; the input reads as it did. -/
def fnExactMethodOfUptoRow : OpenClaim := { program := "ytliejlcoeoiajaa", sum := "5990da876f0efb5a77d8e0030d003300d3af346db61d8ab3ece8ac3c0aa66cc3", func := "loop.example/g00591/laws.FnExactMethodOf", spec := "fnExactMethodOf", apart := false, narrowed := true }
def FnExactMethodOfUptoSaid : Prop := fnExactMethodOfUptoRow.holds Try.pinned (OpenSpec.upto fnExactMethodOfSpec)

/-- 'laws.FnScripts', WHERE WHAT IT READS IS OF BULK AT MOST 1048576: true; the input reads as it did. -/
def fnScriptsUptoRow : OpenClaim := { program := "ytliejlcoeoiajaa", sum := "5990da876f0efb5a77d8e0030d003300d3af346db61d8ab3ece8ac3c0aa66cc3", func := "loop.example/g00591/laws.FnScripts", spec := "fnScripts", unfollowed := true, recurses := true, apart := false, narrowed := true }
def FnScriptsUptoSaid : Prop := fnScriptsUptoRow.holds Try.pinned (OpenSpec.upto fnScriptsSpec)

/-- 'laws.FnExactMessagesTo', WHERE WHAT IT READS IS OF BULK AT MOST 1048576: true; the input reads as it did. -/
def fnExactMessagesToUptoRow : OpenClaim := { program := "ytliejlcoeoiajaa", sum := "5990da876f0efb5a77d8e0030d003300d3af346db61d8ab3ece8ac3c0aa66cc3", func := "loop.example/g00591/laws.FnExactMessagesTo", spec := "fnExactMessagesTo", unfollowed := true, recurses := true, apart := false, narrowed := true }
def FnExactMessagesToUptoSaid : Prop := fnExactMessagesToUptoRow.holds Try.pinned (OpenSpec.upto fnExactMessagesToSpec)

/-- 'laws.FnExactClearChannel', WHERE WHAT IT READS IS OF BULK AT MOST 1048576: true; the input reads as it did. -/
def fnExactClearChannelUptoRow : OpenClaim := { program := "ytliejlcoeoiajaa", sum := "5990da876f0efb5a77d8e0030d003300d3af346db61d8ab3ece8ac3c0aa66cc3", func := "loop.example/g00591/laws.FnExactClearChannel", spec := "fnExactClearChannel", apart := false, narrowed := true }
def FnExactClearChannelUptoSaid : Prop := fnExactClearChannelUptoRow.holds Try.pinned (OpenSpec.upto fnExactClearChannelSpec)

/-- 'laws.FnExactPutMessage', WHERE WHAT IT READS IS OF BULK AT MOST 1048576: true; the input reads as it did. -/
def fnExactPutMessageUptoRow : OpenClaim := { program := "ytliejlcoeoiajaa", sum := "5990da876f0efb5a77d8e0030d003300d3af346db61d8ab3ece8ac3c0aa66cc3", func := "loop.example/g00591/laws.FnExactPutMessage", spec := "fnExactPutMessage", unfollowed := true, recurses := true, apart := false, narrowed := true }
def FnExactPutMessageUptoSaid : Prop := fnExactPutMessageUptoRow.holds Try.pinned (OpenSpec.upto fnExactPutMessageSpec)

/-- 'laws.FnExactTakeMessage', WHERE WHAT IT READS IS OF BULK AT MOST 1048576: true; the input reads as it did. -/
def fnExactTakeMessageUptoRow : OpenClaim := { program := "ytliejlcoeoiajaa", sum := "5990da876f0efb5a77d8e0030d003300d3af346db61d8ab3ece8ac3c0aa66cc3", func := "loop.example/g00591/laws.FnExactTakeMessage", spec := "fnExactTakeMessage", unfollowed := true, recurses := true, apart := false, narrowed := true }
def FnExactTakeMessageUptoSaid : Prop := fnExactTakeMessageUptoRow.holds Try.pinned (OpenSpec.upto fnExactTakeMessageSpec)

end Rows
end Go.Proofs.Ytliejlcoeoiajaa
