/-
  DERIVED. GIVEN WITH THE SEED: THE CARDS: each row of YtolmndaigpcdaaaGreatDoorRows.lean that lists a variable, with what it lists TIED to the program's text (the seventh form; the later family's looks); each row that meets fmt, with fmt's text TOLD by the authors' own Lean function (tested against real Go, not proved from fmt's source: count such statements apart). THE CARD IS WHAT COUNTS. Prove the row's statement (the work); the ties are given (YtolmndaigpcdaaaGreatDoorTie.lean); close each card by the builder's one call (the guide's Derived/Test/ToyasCard.lean, 'card_holds'). Laid BY PROGRAM, IN A SANDBOX (cutbox-door.mjs). By AI agents, Wed Nov 11 2026. No macro, syntax, notation, axiom, sorry.
-/
import Derived.Test.YtolmndaigpcdaaaGreatDoorRows
import GoSem.ClaimSeven
namespace Go.Proofs.YtolmndaigpcdaaaGreatDoor
namespace Rows

/-- THE TIED CARD OF 'fescuelaw30.ScalarNames'. -/
def scalarNamesCard : Claim7 := { stood := { row := scalarNamesRow, standIns := [], harness := (true, "79b25458553fdab444f4b4523ed6f912e45181ab89f25eb8e7399c4f242f72f6"), looks := true }, kinds := [], alts := [], laidByText := true, laidKinds := [.data], laidTests := true, laidLooks := .later }
def ScalarNamesCardSaid : Prop := Claim7.holds Tryz.pinned (.plain (OpenSpec.ofChange scalarNamesSpec)) scalarNamesCard

/-- THE SECOND FORM's CARD OF 'fescuelaw30.ScalarNames'. -/
def scalarNamesUptoCard : Claim7 := { stood := { row := scalarNamesUptoRow, standIns := [], harness := (true, "79b25458553fdab444f4b4523ed6f912e45181ab89f25eb8e7399c4f242f72f6"), looks := true }, kinds := [], alts := [], laidByText := true, laidKinds := [.data], laidTests := true, laidLooks := .later }
def ScalarNamesUptoCardSaid : Prop := Claim7.holds Tryz.pinned (.plain (OpenSpec.upto scalarNamesSpec)) scalarNamesUptoCard
end Rows
end Go.Proofs.YtolmndaigpcdaaaGreatDoor
