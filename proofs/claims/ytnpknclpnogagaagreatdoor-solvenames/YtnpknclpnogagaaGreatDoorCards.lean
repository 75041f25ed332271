/-
  DERIVED. GIVEN WITH THE SEED: THE CARDS: each row of YtnpknclpnogagaaGreatDoorRows.lean that lists a variable, with what it lists TIED to the program's text (the seventh form; the later family's looks); each row that meets fmt, with fmt's text TOLD by the authors' own Lean function (tested against real Go, not proved from fmt's source: count such statements apart). THE CARD IS WHAT COUNTS. Prove the row's statement (the work); the ties are given (YtnpknclpnogagaaGreatDoorTie.lean); close each card by the builder's one call (the guide's Derived/Test/ToyasCard.lean, 'card_holds'). Laid BY PROGRAM, IN A SANDBOX (cutbox-door.mjs). By AI agents, Wed Nov 11 2026. No macro, syntax, notation, axiom, sorry.
-/
import Derived.Test.YtnpknclpnogagaaGreatDoorRows
import GoSem.ClaimSeven
namespace Go.Proofs.YtnpknclpnogagaaGreatDoor
namespace Rows

/-- THE TIED CARD OF 'fescuelaw23.SolveNames'. -/
def solveNamesCard : Claim7 := { stood := { row := solveNamesRow, standIns := [], harness := (true, "2cb0df369c85102aa05d21763666cfb202bce90b67b3f346417bac2bb0ad2d52"), looks := true }, kinds := [], alts := [], laidByText := true, laidKinds := [.data, .data], laidTests := true, laidLooks := .later }
def SolveNamesCardSaid : Prop := Claim7.holds Tryz.pinned (.plain (OpenSpec.ofChange solveNamesSpec)) solveNamesCard

/-- THE SECOND FORM's CARD OF 'fescuelaw23.SolveNames'. -/
def solveNamesUptoCard : Claim7 := { stood := { row := solveNamesUptoRow, standIns := [], harness := (true, "2cb0df369c85102aa05d21763666cfb202bce90b67b3f346417bac2bb0ad2d52"), looks := true }, kinds := [], alts := [], laidByText := true, laidKinds := [.data, .data], laidTests := true, laidLooks := .later }
def SolveNamesUptoCardSaid : Prop := Claim7.holds Tryz.pinned (.plain (OpenSpec.upto solveNamesSpec)) solveNamesUptoCard
end Rows
end Go.Proofs.YtnpknclpnogagaaGreatDoor
