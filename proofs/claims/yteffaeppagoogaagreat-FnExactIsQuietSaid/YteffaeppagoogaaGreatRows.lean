/-
  No cell of these rows narrows 'for every input' (looked for: loops, veiled, ifaces, maps, wideKeys, modest, calm, conditions, laid).
  DERIVED. THE GIVEN ROWS OF THIS SEAT. 11 by the template 'for every input the law returns true; each argument reads behind the call as it read before'; 0 by the template 'total and deterministic' (their statements: YteffaeppagoogaaGreatTotals.lean).
  GIVEN WITH THE SEED: the statements are not yours to turn. If you find one false, say at which input.
  Laid BY PROGRAM, IN A SANDBOX (cutbox-rows.mjs): the forced cells as the released guide's own fill.sh prints them over the translation 85dc62041dcf31fb… (all of the seat's roots in one cut). By AI agents, Wed Nov 11 2026. No macro, syntax, notation, axiom, sorry.
-/
import Derived.Test.YteffaeppagoogaaGreatChecked
import GoSem.Claim
import GoSem.ClaimJoined
import GoSem.ClaimMapViews
import Derived.JoinedTies
import Derived.KernelRfl
namespace Go.Proofs.YteffaeppagoogaaGreat
/- THE CELL 'sum', in the pinned program and in every row, IS THE sha256 OF THE DUMP (.gsa) THAT YteffaeppagoogaaGreatProg.lean LOADS. Nothing in Lean hashes anything: it is a label: what it is worth is what the hold of that sum in a sandbox is worth. -/
noncomputable def Tryz.pinned : Pinned := { name := "yteffaeppagoogaagreat", sum := "85dc62041dcf31fbccdc5c456df83e09bc9c1777f540e9f365a30db6cd6837d7", checked := Tryz.checked }
namespace Rows
def none {H : Type} : Left H := { results := [], args := [] }

/-- 'laws.FnExactCountNotes': WHATEVER THE INPUT: true; the input reads as it did. -/
def fnExactCountNotesSpec : ChangeSpec := { name := "fnExactCountNotes", fn := fun _ => fun
  | [d1, d2] => { results := [.lit (.bool true)], args := [d1, d2] }
  | _ => none }
def fnExactCountNotesRow : OpenClaim := { program := "yteffaeppagoogaagreat", sum := "85dc62041dcf31fbccdc5c456df83e09bc9c1777f540e9f365a30db6cd6837d7", func := "loop.example/g00591/laws.FnExactCountNotes", spec := "fnExactCountNotes", unfollowed := true, recurses := true, plainKeys := false, apart := false }
def FnExactCountNotesSaid : Prop := fnExactCountNotesRow.holds Tryz.pinned (OpenSpec.ofChange fnExactCountNotesSpec)

/-- ITS FALSE NEIGHBOUR: 'it returns false'. Refute it at one input. -/
def fnExactCountNotesWrong : ChangeSpec := { name := "fnExactCountNotes", fn := fun _ => fun
  | [d1, d2] => { results := [.lit (.bool false)], args := [d1, d2] }
  | _ => none }
def FnExactCountNotesWrongFalsely : Prop := fnExactCountNotesRow.holds Tryz.pinned (OpenSpec.ofChange fnExactCountNotesWrong)

/-- 'laws.FnExactSentFrom': WHATEVER THE INPUT: true; the input reads as it did. -/
def fnExactSentFromSpec : ChangeSpec := { name := "fnExactSentFrom", fn := fun _ => fun
  | [d1, d2] => { results := [.lit (.bool true)], args := [d1, d2] }
  | _ => none }
def fnExactSentFromRow : OpenClaim := { program := "yteffaeppagoogaagreat", sum := "85dc62041dcf31fbccdc5c456df83e09bc9c1777f540e9f365a30db6cd6837d7", func := "loop.example/g00591/laws.FnExactSentFrom", spec := "fnExactSentFrom", unfollowed := true, recurses := true, plainKeys := false, apart := false }
def FnExactSentFromSaid : Prop := fnExactSentFromRow.holds Tryz.pinned (OpenSpec.ofChange fnExactSentFromSpec)

/-- ITS FALSE NEIGHBOUR: 'it returns false'. Refute it at one input. -/
def fnExactSentFromWrong : ChangeSpec := { name := "fnExactSentFrom", fn := fun _ => fun
  | [d1, d2] => { results := [.lit (.bool false)], args := [d1, d2] }
  | _ => none }
def FnExactSentFromWrongFalsely : Prop := fnExactSentFromRow.holds Tryz.pinned (OpenSpec.ofChange fnExactSentFromWrong)

/-- 'laws.FnExactIsQuiet': WHATEVER THE INPUT: true; the input reads as it did. -/
def fnExactIsQuietSpec : ChangeSpec := { name := "fnExactIsQuiet", fn := fun _ => fun
  | [d] => { results := [.lit (.bool true)], args := [d] }
  | _ => none }
def fnExactIsQuietRow : OpenClaim := { program := "yteffaeppagoogaagreat", sum := "85dc62041dcf31fbccdc5c456df83e09bc9c1777f540e9f365a30db6cd6837d7", func := "loop.example/g00591/laws.FnExactIsQuiet", spec := "fnExactIsQuiet", unfollowed := true, recurses := true, plainKeys := false, apart := false }
def FnExactIsQuietSaid : Prop := fnExactIsQuietRow.holds Tryz.pinned (OpenSpec.ofChange fnExactIsQuietSpec)

/-- ITS FALSE NEIGHBOUR: 'it returns false'. Refute it at one input. -/
def fnExactIsQuietWrong : ChangeSpec := { name := "fnExactIsQuiet", fn := fun _ => fun
  | [d] => { results := [.lit (.bool false)], args := [d] }
  | _ => none }
def FnExactIsQuietWrongFalsely : Prop := fnExactIsQuietRow.holds Tryz.pinned (OpenSpec.ofChange fnExactIsQuietWrong)

/-- 'laws.FnExactIsOrdered': WHATEVER THE INPUT: true; the input reads as it did. -/
def fnExactIsOrderedSpec : ChangeSpec := { name := "fnExactIsOrdered", fn := fun _ => fun
  | [d] => { results := [.lit (.bool true)], args := [d] }
  | _ => none }
def fnExactIsOrderedRow : OpenClaim := { program := "yteffaeppagoogaagreat", sum := "85dc62041dcf31fbccdc5c456df83e09bc9c1777f540e9f365a30db6cd6837d7", func := "loop.example/g00591/laws.FnExactIsOrdered", spec := "fnExactIsOrdered", plainKeys := false, apart := false }
def FnExactIsOrderedSaid : Prop := fnExactIsOrderedRow.holds Tryz.pinned (OpenSpec.ofChange fnExactIsOrderedSpec)

/-- ITS FALSE NEIGHBOUR: 'it returns false'. Refute it at one input. -/
def fnExactIsOrderedWrong : ChangeSpec := { name := "fnExactIsOrdered", fn := fun _ => fun
  | [d] => { results := [.lit (.bool false)], args := [d] }
  | _ => none }
def FnExactIsOrderedWrongFalsely : Prop := fnExactIsOrderedRow.holds Tryz.pinned (OpenSpec.ofChange fnExactIsOrderedWrong)

/-- 'laws.FnExactIsCausal': WHATEVER THE INPUT: true; the input reads as it did. -/
def fnExactIsCausalSpec : ChangeSpec := { name := "fnExactIsCausal", fn := fun _ => fun
  | [d] => { results := [.lit (.bool true)], args := [d] }
  | _ => none }
def fnExactIsCausalRow : OpenClaim := { program := "yteffaeppagoogaagreat", sum := "85dc62041dcf31fbccdc5c456df83e09bc9c1777f540e9f365a30db6cd6837d7", func := "loop.example/g00591/laws.FnExactIsCausal", spec := "fnExactIsCausal", unfollowed := true, recurses := true, plainKeys := false, apart := false }
def FnExactIsCausalSaid : Prop := fnExactIsCausalRow.holds Tryz.pinned (OpenSpec.ofChange fnExactIsCausalSpec)

/-- ITS FALSE NEIGHBOUR: 'it returns false'. Refute it at one input. -/
def fnExactIsCausalWrong : ChangeSpec := { name := "fnExactIsCausal", fn := fun _ => fun
  | [d] => { results := [.lit (.bool false)], args := [d] }
  | _ => none }
def FnExactIsCausalWrongFalsely : Prop := fnExactIsCausalRow.holds Tryz.pinned (OpenSpec.ofChange fnExactIsCausalWrong)

/-- 'laws.FnExactEqualWorlds': WHATEVER THE INPUT: true; the input reads as it did. -/
def fnExactEqualWorldsSpec : ChangeSpec := { name := "fnExactEqualWorlds", fn := fun _ => fun
  | [d1, d2] => { results := [.lit (.bool true)], args := [d1, d2] }
  | _ => none }
def fnExactEqualWorldsRow : OpenClaim := { program := "yteffaeppagoogaagreat", sum := "85dc62041dcf31fbccdc5c456df83e09bc9c1777f540e9f365a30db6cd6837d7", func := "loop.example/g00591/laws.FnExactEqualWorlds", spec := "fnExactEqualWorlds", unfollowed := true, recurses := true, plainKeys := false, apart := false }
def FnExactEqualWorldsSaid : Prop := fnExactEqualWorldsRow.holds Tryz.pinned (OpenSpec.ofChange fnExactEqualWorldsSpec)

/-- ITS FALSE NEIGHBOUR: 'it returns false'. Refute it at one input. -/
def fnExactEqualWorldsWrong : ChangeSpec := { name := "fnExactEqualWorlds", fn := fun _ => fun
  | [d1, d2] => { results := [.lit (.bool false)], args := [d1, d2] }
  | _ => none }
def FnExactEqualWorldsWrongFalsely : Prop := fnExactEqualWorldsRow.holds Tryz.pinned (OpenSpec.ofChange fnExactEqualWorldsWrong)

/-- 'laws.FnExactTurnsAt': WHATEVER THE INPUT: true; the input reads as it did. -/
def fnExactTurnsAtSpec : ChangeSpec := { name := "fnExactTurnsAt", fn := fun _ => fun
  | [d1, d2, d3] => { results := [.lit (.bool true)], args := [d1, d2, d3] }
  | _ => none }
def fnExactTurnsAtRow : OpenClaim := { program := "yteffaeppagoogaagreat", sum := "85dc62041dcf31fbccdc5c456df83e09bc9c1777f540e9f365a30db6cd6837d7", func := "loop.example/g00591/laws.FnExactTurnsAt", spec := "fnExactTurnsAt", plainKeys := false, apart := false }
def FnExactTurnsAtSaid : Prop := fnExactTurnsAtRow.holds Tryz.pinned (OpenSpec.ofChange fnExactTurnsAtSpec)

/-- ITS FALSE NEIGHBOUR: 'it returns false'. Refute it at one input. -/
def fnExactTurnsAtWrong : ChangeSpec := { name := "fnExactTurnsAt", fn := fun _ => fun
  | [d1, d2, d3] => { results := [.lit (.bool false)], args := [d1, d2, d3] }
  | _ => none }
def FnExactTurnsAtWrongFalsely : Prop := fnExactTurnsAtRow.holds Tryz.pinned (OpenSpec.ofChange fnExactTurnsAtWrong)

/-- 'laws.FnExactTurnTags': WHATEVER THE INPUT: true; the input reads as it did. -/
def fnExactTurnTagsSpec : ChangeSpec := { name := "fnExactTurnTags", fn := fun _ => fun
  | [d] => { results := [.lit (.bool true)], args := [d] }
  | _ => none }
def fnExactTurnTagsRow : OpenClaim := { program := "yteffaeppagoogaagreat", sum := "85dc62041dcf31fbccdc5c456df83e09bc9c1777f540e9f365a30db6cd6837d7", func := "loop.example/g00591/laws.FnExactTurnTags", spec := "fnExactTurnTags", plainKeys := false, apart := false }
def FnExactTurnTagsSaid : Prop := fnExactTurnTagsRow.holds Tryz.pinned (OpenSpec.ofChange fnExactTurnTagsSpec)

/-- ITS FALSE NEIGHBOUR: 'it returns false'. Refute it at one input. -/
def fnExactTurnTagsWrong : ChangeSpec := { name := "fnExactTurnTags", fn := fun _ => fun
  | [d] => { results := [.lit (.bool false)], args := [d] }
  | _ => none }
def FnExactTurnTagsWrongFalsely : Prop := fnExactTurnTagsRow.holds Tryz.pinned (OpenSpec.ofChange fnExactTurnTagsWrong)

/-- 'laws.FnExactUndone': WHATEVER THE INPUT: true; the input reads as it did. -/
def fnExactUndoneSpec : ChangeSpec := { name := "fnExactUndone", fn := fun _ => fun
  | [d] => { results := [.lit (.bool true)], args := [d] }
  | _ => none }
def fnExactUndoneRow : OpenClaim := { program := "yteffaeppagoogaagreat", sum := "85dc62041dcf31fbccdc5c456df83e09bc9c1777f540e9f365a30db6cd6837d7", func := "loop.example/g00591/laws.FnExactUndone", spec := "fnExactUndone", plainKeys := false, apart := false }
def FnExactUndoneSaid : Prop := fnExactUndoneRow.holds Tryz.pinned (OpenSpec.ofChange fnExactUndoneSpec)

/-- ITS FALSE NEIGHBOUR: 'it returns false'. Refute it at one input. -/
def fnExactUndoneWrong : ChangeSpec := { name := "fnExactUndone", fn := fun _ => fun
  | [d] => { results := [.lit (.bool false)], args := [d] }
  | _ => none }
def FnExactUndoneWrongFalsely : Prop := fnExactUndoneRow.holds Tryz.pinned (OpenSpec.ofChange fnExactUndoneWrong)

/-- 'laws.FnExactNewWorld': WHATEVER THE INPUT: true; the input reads as it did. -/
def fnExactNewWorldSpec : ChangeSpec := { name := "fnExactNewWorld", fn := fun _ => fun
  | [d1, d2] => { results := [.lit (.bool true)], args := [d1, d2] }
  | _ => none }
def fnExactNewWorldRow : OpenClaim := { program := "yteffaeppagoogaagreat", sum := "85dc62041dcf31fbccdc5c456df83e09bc9c1777f540e9f365a30db6cd6837d7", func := "loop.example/g00591/laws.FnExactNewWorld", spec := "fnExactNewWorld", unfollowed := true, recurses := true, plainKeys := false, apart := false }
def FnExactNewWorldSaid : Prop := fnExactNewWorldRow.holds Tryz.pinned (OpenSpec.ofChange fnExactNewWorldSpec)

/-- ITS FALSE NEIGHBOUR: 'it returns false'. Refute it at one input. -/
def fnExactNewWorldWrong : ChangeSpec := { name := "fnExactNewWorld", fn := fun _ => fun
  | [d1, d2] => { results := [.lit (.bool false)], args := [d1, d2] }
  | _ => none }
def FnExactNewWorldWrongFalsely : Prop := fnExactNewWorldRow.holds Tryz.pinned (OpenSpec.ofChange fnExactNewWorldWrong)

/-- 'laws.FnExactNoteTurn': WHATEVER THE INPUT: true; the input reads as it did. -/
def fnExactNoteTurnSpec : ChangeSpec := { name := "fnExactNoteTurn", fn := fun _ => fun
  | [d1, d2, d3, d4] => { results := [.lit (.bool true)], args := [d1, d2, d3, d4] }
  | _ => none }
def fnExactNoteTurnRow : OpenClaim := { program := "yteffaeppagoogaagreat", sum := "85dc62041dcf31fbccdc5c456df83e09bc9c1777f540e9f365a30db6cd6837d7", func := "loop.example/g00591/laws.FnExactNoteTurn", spec := "fnExactNoteTurn", plainKeys := false, apart := false }
def FnExactNoteTurnSaid : Prop := fnExactNoteTurnRow.holds Tryz.pinned (OpenSpec.ofChange fnExactNoteTurnSpec)

/-- ITS FALSE NEIGHBOUR: 'it returns false'. Refute it at one input. -/
def fnExactNoteTurnWrong : ChangeSpec := { name := "fnExactNoteTurn", fn := fun _ => fun
  | [d1, d2, d3, d4] => { results := [.lit (.bool false)], args := [d1, d2, d3, d4] }
  | _ => none }
def FnExactNoteTurnWrongFalsely : Prop := fnExactNoteTurnRow.holds Tryz.pinned (OpenSpec.ofChange fnExactNoteTurnWrong)

/- THE SECOND FORM. 'bulk': how many values and letters a reading holds, each counted each time it is reached (what is shared counts as often as it is met; a slice's spare places count too). A statement '..UptoSaid' is the law's where the arguments, and the package variables that the reading takes, are together of bulk at most 1048576: NARROWER than '..Said'. Prove '..Said' where nothing that the law and all that it calls make is longer than what came in: it says more and counts as full. Else prove '..UptoSaid'. A law counts once. -/
mutual
def uptoBulk {H : Type} : DataW H → Nat
  | .lit (.string bytes) => bytes.length + 1
  | .lit _ => 1
  | .nil => 1
  | .ptr d => uptoBulk d + 1
  | .slice elems spare => uptoBulkAll elems + uptoBulkAll spare + 1
  | .agg parts => uptoBulkAll parts + 1
  | .iface _ d => uptoBulk d + 1
  | .map entries => uptoBulkEntries entries + 1
  | .held _ => 1
def uptoBulkAll {H : Type} : List (DataW H) → Nat
  | [] => 0
  | d :: r => uptoBulk d + uptoBulkAll r
def uptoBulkEntries {H : Type} : List (Lit × DataW H) → Nat
  | [] => 0
  | x :: r => uptoBulkEntry x + uptoBulkEntries r
def uptoBulkEntry {H : Type} : Lit × DataW H → Nat
  | (.string bytes, d) => bytes.length + uptoBulk d + 1
  | (_, d) => uptoBulk d + 1
 end
def uptoSmall : (H : Type) → List (DataW H) → Bool := fun _ ds => decide (uptoBulkAll ds ≤ 1048576)
def OpenSpec.upto (s : _root_.Go.ChangeSpec) : _root_.Go.OpenSpec := { _root_.Go.OpenSpec.ofChange s with cond := some uptoSmall }

/-- 'laws.FnExactCountNotes', WHERE WHAT IT READS IS OF BULK AT MOST 1048576: true; the input reads as it did. -/
def fnExactCountNotesUptoRow : OpenClaim := { program := "yteffaeppagoogaagreat", sum := "85dc62041dcf31fbccdc5c456df83e09bc9c1777f540e9f365a30db6cd6837d7", func := "loop.example/g00591/laws.FnExactCountNotes", spec := "fnExactCountNotes", unfollowed := true, recurses := true, plainKeys := false, apart := false, narrowed := true }
def FnExactCountNotesUptoSaid : Prop := fnExactCountNotesUptoRow.holds Tryz.pinned (OpenSpec.upto fnExactCountNotesSpec)

/-- 'laws.FnExactSentFrom', WHERE WHAT IT READS IS OF BULK AT MOST 1048576: true; the input reads as it did. -/
def fnExactSentFromUptoRow : OpenClaim := { program := "yteffaeppagoogaagreat", sum := "85dc62041dcf31fbccdc5c456df83e09bc9c1777f540e9f365a30db6cd6837d7", func := "loop.example/g00591/laws.FnExactSentFrom", spec := "fnExactSentFrom", unfollowed := true, recurses := true, plainKeys := false, apart := false, narrowed := true }
def FnExactSentFromUptoSaid : Prop := fnExactSentFromUptoRow.holds Tryz.pinned (OpenSpec.upto fnExactSentFromSpec)

/-- 'laws.FnExactIsQuiet', WHERE WHAT IT READS IS OF BULK AT MOST 1048576: true; the input reads as it did. -/
def fnExactIsQuietUptoRow : OpenClaim := { program := "yteffaeppagoogaagreat", sum := "85dc62041dcf31fbccdc5c456df83e09bc9c1777f540e9f365a30db6cd6837d7", func := "loop.example/g00591/laws.FnExactIsQuiet", spec := "fnExactIsQuiet", unfollowed := true, recurses := true, plainKeys := false, apart := false, narrowed := true }
def FnExactIsQuietUptoSaid : Prop := fnExactIsQuietUptoRow.holds Tryz.pinned (OpenSpec.upto fnExactIsQuietSpec)

/-- 'laws.FnExactIsOrdered', WHERE WHAT IT READS IS OF BULK AT MOST 1048576: true; the input reads as it did. -/
def fnExactIsOrderedUptoRow : OpenClaim := { program := "yteffaeppagoogaagreat", sum := "85dc62041dcf31fbccdc5c456df83e09bc9c1777f540e9f365a30db6cd6837d7", func := "loop.example/g00591/laws.FnExactIsOrdered", spec := "fnExactIsOrdered", plainKeys := false, apart := false, narrowed := true }
def FnExactIsOrderedUptoSaid : Prop := fnExactIsOrderedUptoRow.holds Tryz.pinned (OpenSpec.upto fnExactIsOrderedSpec)

/-- 'laws.FnExactIsCausal', WHERE WHAT IT READS IS OF BULK AT MOST 1048576: true; the input reads as it did. -/
def fnExactIsCausalUptoRow : OpenClaim := { program := "yteffaeppagoogaagreat", sum := "85dc62041dcf31fbccdc5c456df83e09bc9c1777f540e9f365a30db6cd6837d7", func := "loop.example/g00591/laws.FnExactIsCausal", spec := "fnExactIsCausal", unfollowed := true, recurses := true, plainKeys := false, apart := false, narrowed := true }
def FnExactIsCausalUptoSaid : Prop := fnExactIsCausalUptoRow.holds Tryz.pinned (OpenSpec.upto fnExactIsCausalSpec)

/-- 'laws.FnExactEqualWorlds', WHERE WHAT IT READS IS OF BULK AT MOST 1048576: true; the input reads as it did. -/
def fnExactEqualWorldsUptoRow : OpenClaim := { program := "yteffaeppagoogaagreat", sum := "85dc62041dcf31fbccdc5c456df83e09bc9c1777f540e9f365a30db6cd6837d7", func := "loop.example/g00591/laws.FnExactEqualWorlds", spec := "fnExactEqualWorlds", unfollowed := true, recurses := true, plainKeys := false, apart := false, narrowed := true }
def FnExactEqualWorldsUptoSaid : Prop := fnExactEqualWorldsUptoRow.holds Tryz.pinned (OpenSpec.upto fnExactEqualWorldsSpec)

/-- 'laws.FnExactTurnsAt', WHERE WHAT IT READS IS OF BULK AT MOST 1048576: true; the input reads as it did. -/
def fnExactTurnsAtUptoRow : OpenClaim := { program := "yteffaeppagoogaagreat", sum := "85dc62041dcf31fbccdc5c456df83e09bc9c1777f540e9f365a30db6cd6837d7", func := "loop.example/g00591/laws.FnExactTurnsAt", spec := "fnExactTurnsAt", plainKeys := false, apart := false, narrowed := true }
def FnExactTurnsAtUptoSaid : Prop := fnExactTurnsAtUptoRow.holds Tryz.pinned (OpenSpec.upto fnExactTurnsAtSpec)

/-- 'laws.FnExactTurnTags', WHERE WHAT IT READS IS OF BULK AT MOST 1048576: true; the input reads as it did. -/
def fnExactTurnTagsUptoRow : OpenClaim := { program := "yteffaeppagoogaagreat", sum := "85dc62041dcf31fbccdc5c456df83e09bc9c1777f540e9f365a30db6cd6837d7", func := "loop.example/g00591/laws.FnExactTurnTags", spec := "fnExactTurnTags", plainKeys := false, apart := false, narrowed := true }
def FnExactTurnTagsUptoSaid : Prop := fnExactTurnTagsUptoRow.holds Tryz.pinned (OpenSpec.upto fnExactTurnTagsSpec)

/-- 'laws.FnExactUndone', WHERE WHAT IT READS IS OF BULK AT MOST 1048576: true; the input reads as it did. -/
def fnExactUndoneUptoRow : OpenClaim := { program := "yteffaeppagoogaagreat", sum := "85dc62041dcf31fbccdc5c456df83e09bc9c1777f540e9f365a30db6cd6837d7", func := "loop.example/g00591/laws.FnExactUndone", spec := "fnExactUndone", plainKeys := false, apart := false, narrowed := true }
def FnExactUndoneUptoSaid : Prop := fnExactUndoneUptoRow.holds Tryz.pinned (OpenSpec.upto fnExactUndoneSpec)

/-- 'laws.FnExactNewWorld', WHERE WHAT IT READS IS OF BULK AT MOST 1048576: true; the input reads as it did. -/
def fnExactNewWorldUptoRow : OpenClaim := { program := "yteffaeppagoogaagreat", sum := "85dc62041dcf31fbccdc5c456df83e09bc9c1777f540e9f365a30db6cd6837d7", func := "loop.example/g00591/laws.FnExactNewWorld", spec := "fnExactNewWorld", unfollowed := true, recurses := true, plainKeys := false, apart := false, narrowed := true }
def FnExactNewWorldUptoSaid : Prop := fnExactNewWorldUptoRow.holds Tryz.pinned (OpenSpec.upto fnExactNewWorldSpec)

/-- 'laws.FnExactNoteTurn', WHERE WHAT IT READS IS OF BULK AT MOST 1048576: true; the input reads as it did. -/
def fnExactNoteTurnUptoRow : OpenClaim := { program := "yteffaeppagoogaagreat", sum := "85dc62041dcf31fbccdc5c456df83e09bc9c1777f540e9f365a30db6cd6837d7", func := "loop.example/g00591/laws.FnExactNoteTurn", spec := "fnExactNoteTurn", plainKeys := false, apart := false, narrowed := true }
def FnExactNoteTurnUptoSaid : Prop := fnExactNoteTurnUptoRow.holds Tryz.pinned (OpenSpec.upto fnExactNoteTurnSpec)

end Rows
end Go.Proofs.YteffaeppagoogaaGreat
