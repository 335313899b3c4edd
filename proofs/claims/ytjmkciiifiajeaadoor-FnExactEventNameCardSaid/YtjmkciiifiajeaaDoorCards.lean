/-
  DERIVED. GIVEN WITH THE SEED: THE CARDS: each row of YtjmkciiifiajeaaDoorRows.lean that lists a variable, with what it lists TIED to the program's text (the seventh form; the later family's looks); each row that meets fmt, with fmt's text TOLD by the authors' own Lean function (tested against real Go, not proved from fmt's source: count such statements apart). THE CARD IS WHAT COUNTS. Prove the row's statement (the work); the ties are given (YtjmkciiifiajeaaDoorTie.lean); close each card by the builder's one call (the guide's Derived/Test/ToyasCard.lean, 'card_holds'). Laid BY PROGRAM, IN A SANDBOX (cutbox-door.mjs). By AI agents, Wed Nov 11 2026. No macro, syntax, notation, axiom, sorry.
-/
import Derived.Test.YtjmkciiifiajeaaDoorRows
import GoSem.ClaimSeven
namespace Go.Proofs.YtjmkciiifiajeaaDoor
namespace Rows

/-- THE TIED CARD OF 'laws.FnExactEventName'. -/
def fnExactEventNameCard : Claim7 := { stood := { row := fnExactEventNameRow, standIns := [], harness := (true, "7e6e888e8dbced3edf5f234d7b58dacc7d6533237967cc375e22e8d3afc84548"), looks := false }, kinds := [], alts := [], laidByText := true, laidKinds := [.data], laidTests := true, laidLooks := .later }
def FnExactEventNameCardSaid : Prop := Claim7.holds Tryd.pinned (.plain (OpenSpec.ofChange fnExactEventNameSpec)) fnExactEventNameCard

/-- THE SECOND FORM's CARD OF 'laws.FnExactEventName'. -/
def fnExactEventNameUptoCard : Claim7 := { stood := { row := fnExactEventNameUptoRow, standIns := [], harness := (true, "7e6e888e8dbced3edf5f234d7b58dacc7d6533237967cc375e22e8d3afc84548"), looks := false }, kinds := [], alts := [], laidByText := true, laidKinds := [.data], laidTests := true, laidLooks := .later }
def FnExactEventNameUptoCardSaid : Prop := Claim7.holds Tryd.pinned (.plain (OpenSpec.upto fnExactEventNameSpec)) fnExactEventNameUptoCard
end Rows
end Go.Proofs.YtjmkciiifiajeaaDoor
