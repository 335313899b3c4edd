/-
  No cell of these rows narrows 'for every input' (looked for: loops, veiled, ifaces, maps, wideKeys, modest, calm, conditions, laid).
  DERIVED. THE GIVEN ROWS OF THIS SEAT. 5 by the template 'for every input the law returns true; each argument reads behind the call as it read before'; 0 by the template 'total and deterministic' (their statements: YtelgpkjmkfjiiaaTotals.lean).
  GIVEN WITH THE SEED: the statements are not yours to turn. If you find one false, say at which input.
  Laid BY PROGRAM, IN A SANDBOX (cutbox-rows.mjs): the forced cells as the released guide's own fill.sh prints them over the translation a68d27cba3aacb00… (all of the seat's roots in one cut). By AI agents, Wed Nov 11 2026. No macro, syntax, notation, axiom, sorry.
-/
import Derived.Test.YtelgpkjmkfjiiaaChecked
import GoSem.Claim
import GoSem.ClaimJoined
import GoSem.ClaimMapViews
import Derived.JoinedTies
import Derived.KernelRfl
namespace Go.Proofs.Ytelgpkjmkfjiiaa
/- THE CELL 'sum', in the pinned program and in every row, IS THE sha256 OF THE DUMP (.gsa) THAT YtelgpkjmkfjiiaaProg.lean LOADS. Nothing in Lean hashes anything: it is a label: what it is worth is what the hold of that sum in a sandbox is worth. -/
noncomputable def Try.pinned : Pinned := { name := "ytelgpkjmkfjiiaa", sum := "a68d27cba3aacb006f917ccd393f304a054f5a4c5ee7ab14963815465602685c", checked := Try.checked }
namespace Rows
def none {H : Type} : Left H := { results := [], args := [] }

/-- 'laws.FnExactFirstLate': WHATEVER THE INPUT: true; the input reads as it did. -/
def fnExactFirstLateSpec : ChangeSpec := { name := "fnExactFirstLate", fn := fun _ => fun
  | [d] => { results := [.lit (.bool true)], args := [d] }
  | _ => none }
def fnExactFirstLateRow : OpenClaim := { program := "ytelgpkjmkfjiiaa", sum := "a68d27cba3aacb006f917ccd393f304a054f5a4c5ee7ab14963815465602685c", func := "loop.example/g00591/laws.FnExactFirstLate", spec := "fnExactFirstLate", apart := false }
def FnExactFirstLateSaid : Prop := fnExactFirstLateRow.holds Try.pinned (OpenSpec.ofChange fnExactFirstLateSpec)

/-- ITS FALSE NEIGHBOUR: 'it returns false'. Refute it at one input. -/
def fnExactFirstLateWrong : ChangeSpec := { name := "fnExactFirstLate", fn := fun _ => fun
  | [d] => { results := [.lit (.bool false)], args := [d] }
  | _ => none }
def FnExactFirstLateWrongFalsely : Prop := fnExactFirstLateRow.holds Try.pinned (OpenSpec.ofChange fnExactFirstLateWrong)

/-- 'laws.FnExactInOrder': WHATEVER THE INPUT: true; the input reads as it did. -/
def fnExactInOrderSpec : ChangeSpec := { name := "fnExactInOrder", fn := fun _ => fun
  | [d] => { results := [.lit (.bool true)], args := [d] }
  | _ => none }
def fnExactInOrderRow : OpenClaim := { program := "ytelgpkjmkfjiiaa", sum := "a68d27cba3aacb006f917ccd393f304a054f5a4c5ee7ab14963815465602685c", func := "loop.example/g00591/laws.FnExactInOrder", spec := "fnExactInOrder", apart := false }
def FnExactInOrderSaid : Prop := fnExactInOrderRow.holds Try.pinned (OpenSpec.ofChange fnExactInOrderSpec)

/-- ITS FALSE NEIGHBOUR: 'it returns false'. Refute it at one input. -/
def fnExactInOrderWrong : ChangeSpec := { name := "fnExactInOrder", fn := fun _ => fun
  | [d] => { results := [.lit (.bool false)], args := [d] }
  | _ => none }
def FnExactInOrderWrongFalsely : Prop := fnExactInOrderRow.holds Try.pinned (OpenSpec.ofChange fnExactInOrderWrong)

/-- 'laws.FnExactWasSent': WHATEVER THE INPUT: true; the input reads as it did. -/
def fnExactWasSentSpec : ChangeSpec := { name := "fnExactWasSent", fn := fun _ => fun
  | [d1, d2] => { results := [.lit (.bool true)], args := [d1, d2] }
  | _ => none }
def fnExactWasSentRow : OpenClaim := { program := "ytelgpkjmkfjiiaa", sum := "a68d27cba3aacb006f917ccd393f304a054f5a4c5ee7ab14963815465602685c", func := "loop.example/g00591/laws.FnExactWasSent", spec := "fnExactWasSent", unfollowed := true, recurses := true, apart := false }
def FnExactWasSentSaid : Prop := fnExactWasSentRow.holds Try.pinned (OpenSpec.ofChange fnExactWasSentSpec)

/-- ITS FALSE NEIGHBOUR: 'it returns false'. Refute it at one input. -/
def fnExactWasSentWrong : ChangeSpec := { name := "fnExactWasSent", fn := fun _ => fun
  | [d1, d2] => { results := [.lit (.bool false)], args := [d1, d2] }
  | _ => none }
def FnExactWasSentWrongFalsely : Prop := fnExactWasSentRow.holds Try.pinned (OpenSpec.ofChange fnExactWasSentWrong)

/-- 'laws.FnExactSeqsOf': WHATEVER THE INPUT: true; the input reads as it did. -/
def fnExactSeqsOfSpec : ChangeSpec := { name := "fnExactSeqsOf", fn := fun _ => fun
  | [d1, d2, d3] => { results := [.lit (.bool true)], args := [d1, d2, d3] }
  | _ => none }
def fnExactSeqsOfRow : OpenClaim := { program := "ytelgpkjmkfjiiaa", sum := "a68d27cba3aacb006f917ccd393f304a054f5a4c5ee7ab14963815465602685c", func := "loop.example/g00591/laws.FnExactSeqsOf", spec := "fnExactSeqsOf", apart := false }
def FnExactSeqsOfSaid : Prop := fnExactSeqsOfRow.holds Try.pinned (OpenSpec.ofChange fnExactSeqsOfSpec)

/-- ITS FALSE NEIGHBOUR: 'it returns false'. Refute it at one input. -/
def fnExactSeqsOfWrong : ChangeSpec := { name := "fnExactSeqsOf", fn := fun _ => fun
  | [d1, d2, d3] => { results := [.lit (.bool false)], args := [d1, d2, d3] }
  | _ => none }
def FnExactSeqsOfWrongFalsely : Prop := fnExactSeqsOfRow.holds Try.pinned (OpenSpec.ofChange fnExactSeqsOfWrong)

/-- 'laws.FnExactCountKinds': WHATEVER THE INPUT: true; the input reads as it did. -/
def fnExactCountKindsSpec : ChangeSpec := { name := "fnExactCountKinds", fn := fun _ => fun
  | [d1, d2] => { results := [.lit (.bool true)], args := [d1, d2] }
  | _ => none }
def fnExactCountKindsRow : OpenClaim := { program := "ytelgpkjmkfjiiaa", sum := "a68d27cba3aacb006f917ccd393f304a054f5a4c5ee7ab14963815465602685c", func := "loop.example/g00591/laws.FnExactCountKinds", spec := "fnExactCountKinds", apart := false }
def FnExactCountKindsSaid : Prop := fnExactCountKindsRow.holds Try.pinned (OpenSpec.ofChange fnExactCountKindsSpec)

/-- ITS FALSE NEIGHBOUR: 'it returns false'. Refute it at one input. -/
def fnExactCountKindsWrong : ChangeSpec := { name := "fnExactCountKinds", fn := fun _ => fun
  | [d1, d2] => { results := [.lit (.bool false)], args := [d1, d2] }
  | _ => none }
def FnExactCountKindsWrongFalsely : Prop := fnExactCountKindsRow.holds Try.pinned (OpenSpec.ofChange fnExactCountKindsWrong)

/- THE SECOND FORM. 'bulk': how many values and letters a reading holds, each counted each time it is reached (what is shared counts as often as it is met; a slice's spare places count too). A statement '..UptoSaid' is the law's where the arguments, and the package variables that the reading takes, are together of bulk at most 1048576: NARROWER than '..Said'. Prove '..Said' where nothing that the law and all that it calls make is longer than what came in: it says more and counts as full. Else prove '..UptoSaid'. A law counts once. -/
mutual
def uptoBulk {H : Type} : DataW H → Nat
  | .lit (.string bytes) => bytes.length + 1
  | .lit _ => 1
  | .nil => 1
  | .ptr d => uptoBulk d + 1
  | .slice elems spare => uptoBulkAll elems + uptoBulkAll spare + 1
  | .agg parts => uptoBulkAll parts + 1
  | .iface _ d => uptoBulk d + 1
  | .map entries => uptoBulkEntries entries + 1
  | .held _ => 1
def uptoBulkAll {H : Type} : List (DataW H) → Nat
  | [] => 0
  | d :: r => uptoBulk d + uptoBulkAll r
def uptoBulkEntries {H : Type} : List (Lit × DataW H) → Nat
  | [] => 0
  | x :: r => uptoBulkEntry x + uptoBulkEntries r
def uptoBulkEntry {H : Type} : Lit × DataW H → Nat
  | (.string bytes, d) => bytes.length + uptoBulk d + 1
  | (_, d) => uptoBulk d + 1
 end
def uptoSmall : (H : Type) → List (DataW H) → Bool := fun _ ds => decide (uptoBulkAll ds ≤ 1048576)
def OpenSpec.upto (s : _root_.Go.ChangeSpec) : _root_.Go.OpenSpec := { _root_.Go.OpenSpec.ofChange s with cond := some uptoSmall }

/-- 'laws.FnExactFirstLate', WHERE WHAT IT READS IS OF BULK AT MOST 1048576: true; the input reads as it did. -/
def fnExactFirstLateUptoRow : OpenClaim := { program := "ytelgpkjmkfjiiaa", sum := "a68d27cba3aacb006f917ccd393f304a054f5a4c5ee7ab14963815465602685c", func := "loop.example/g00591/laws.FnExactFirstLate", spec := "fnExactFirstLate", apart := false, narrowed := true }
def FnExactFirstLateUptoSaid : Prop := fnExactFirstLateUptoRow.holds Try.pinned (OpenSpec.upto fnExactFirstLateSpec)

/-- 'laws.FnExactInOrder', WHERE WHAT IT READS IS OF BULK AT MOST 1048576: true; the input reads as it did. -/
def fnExactInOrderUptoRow : OpenClaim := { program := "ytelgpkjmkfjiiaa", sum := "a68d27cba3aacb006f917ccd393f304a054f5a4c5ee7ab14963815465602685c", func := "loop.example/g00591/laws.FnExactInOrder", spec := "fnExactInOrder", apart := false, narrowed := true }
def FnExactInOrderUptoSaid : Prop := fnExactInOrderUptoRow.holds Try.pinned (OpenSpec.upto fnExactInOrderSpec)

/-- 'laws.FnExactWasSent', WHERE WHAT IT READS IS OF BULK AT MOST 1048576: true; the input reads as it did. -/
def fnExactWasSentUptoRow : OpenClaim := { program := "ytelgpkjmkfjiiaa", sum := "a68d27cba3aacb006f917ccd393f304a054f5a4c5ee7ab14963815465602685c", func := "loop.example/g00591/laws.FnExactWasSent", spec := "fnExactWasSent", unfollowed := true, recurses := true, apart := false, narrowed := true }
def FnExactWasSentUptoSaid : Prop := fnExactWasSentUptoRow.holds Try.pinned (OpenSpec.upto fnExactWasSentSpec)

/-- 'laws.FnExactSeqsOf', WHERE WHAT IT READS IS OF BULK AT MOST 1048576: true; the input reads as it did. -/
def fnExactSeqsOfUptoRow : OpenClaim := { program := "ytelgpkjmkfjiiaa", sum := "a68d27cba3aacb006f917ccd393f304a054f5a4c5ee7ab14963815465602685c", func := "loop.example/g00591/laws.FnExactSeqsOf", spec := "fnExactSeqsOf", apart := false, narrowed := true }
def FnExactSeqsOfUptoSaid : Prop := fnExactSeqsOfUptoRow.holds Try.pinned (OpenSpec.upto fnExactSeqsOfSpec)

/-- 'laws.FnExactCountKinds', WHERE WHAT IT READS IS OF BULK AT MOST 1048576: true; the input reads as it did. -/
def fnExactCountKindsUptoRow : OpenClaim := { program := "ytelgpkjmkfjiiaa", sum := "a68d27cba3aacb006f917ccd393f304a054f5a4c5ee7ab14963815465602685c", func := "loop.example/g00591/laws.FnExactCountKinds", spec := "fnExactCountKinds", apart := false, narrowed := true }
def FnExactCountKindsUptoSaid : Prop := fnExactCountKindsUptoRow.holds Try.pinned (OpenSpec.upto fnExactCountKindsSpec)

end Rows
end Go.Proofs.Ytelgpkjmkfjiiaa
