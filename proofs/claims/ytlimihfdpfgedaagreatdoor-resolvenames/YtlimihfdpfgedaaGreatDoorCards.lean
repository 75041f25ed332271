/-
  DERIVED. GIVEN WITH THE SEED: THE CARDS: each row of YtlimihfdpfgedaaGreatDoorRows.lean that lists a variable, with what it lists TIED to the program's text (the seventh form; the later family's looks); each row that meets fmt, with fmt's text TOLD by the authors' own Lean function (tested against real Go, not proved from fmt's source: count such statements apart). THE CARD IS WHAT COUNTS. Prove the row's statement (the work); the ties are given (YtlimihfdpfgedaaGreatDoorTie.lean); close each card by the builder's one call (the guide's Derived/Test/ToyasCard.lean, 'card_holds'). Laid BY PROGRAM, IN A SANDBOX (cutbox-door.mjs). By AI agents, Wed Nov 11 2026. No macro, syntax, notation, axiom, sorry.
-/
import Derived.Test.YtlimihfdpfgedaaGreatDoorRows
import GoSem.ClaimSeven
namespace Go.Proofs.YtlimihfdpfgedaaGreatDoor
namespace Rows

/-- THE TIED CARD OF 'fescuelaw23.SolveNames'. -/
def solveNamesCard : Claim7 := { stood := { row := solveNamesRow, standIns := [], harness := (true, "66644182272b0fadaf434f5984e0127482179b4d0a33db0e0bcbdfba04e9a27e"), looks := true }, kinds := [], alts := [], laidByText := true, laidKinds := [.data, .data], laidTests := true, laidLooks := .later }
def SolveNamesCardSaid : Prop := Claim7.holds Tryz.pinned (.plain (OpenSpec.ofChange solveNamesSpec)) solveNamesCard

/-- THE TIED CARD OF 'fescuelaw25.EscapeNames'. -/
def escapeNamesCard : Claim7 := { stood := { row := escapeNamesRow, standIns := [], harness := (true, "66644182272b0fadaf434f5984e0127482179b4d0a33db0e0bcbdfba04e9a27e"), looks := true }, kinds := [], alts := [], laidByText := true, laidKinds := [.data, .data], laidTests := true, laidLooks := .later }
def EscapeNamesCardSaid : Prop := Claim7.holds Tryz.pinned (.plain (OpenSpec.ofChange escapeNamesSpec)) escapeNamesCard

/-- THE TIED CARD OF 'fescuelaw28.ResolveNames'. -/
def resolveNamesCard : Claim7 := { stood := { row := resolveNamesRow, standIns := [], harness := (true, "66644182272b0fadaf434f5984e0127482179b4d0a33db0e0bcbdfba04e9a27e"), looks := true }, kinds := [], alts := [], laidByText := true, laidKinds := [.data, .data], laidTests := true, laidLooks := .later }
def ResolveNamesCardSaid : Prop := Claim7.holds Tryz.pinned (.plain (OpenSpec.ofChange resolveNamesSpec)) resolveNamesCard

/-- THE SECOND FORM's CARD OF 'fescuelaw23.SolveNames'. -/
def solveNamesUptoCard : Claim7 := { stood := { row := solveNamesUptoRow, standIns := [], harness := (true, "66644182272b0fadaf434f5984e0127482179b4d0a33db0e0bcbdfba04e9a27e"), looks := true }, kinds := [], alts := [], laidByText := true, laidKinds := [.data, .data], laidTests := true, laidLooks := .later }
def SolveNamesUptoCardSaid : Prop := Claim7.holds Tryz.pinned (.plain (OpenSpec.upto solveNamesSpec)) solveNamesUptoCard

/-- THE SECOND FORM's CARD OF 'fescuelaw25.EscapeNames'. -/
def escapeNamesUptoCard : Claim7 := { stood := { row := escapeNamesUptoRow, standIns := [], harness := (true, "66644182272b0fadaf434f5984e0127482179b4d0a33db0e0bcbdfba04e9a27e"), looks := true }, kinds := [], alts := [], laidByText := true, laidKinds := [.data, .data], laidTests := true, laidLooks := .later }
def EscapeNamesUptoCardSaid : Prop := Claim7.holds Tryz.pinned (.plain (OpenSpec.upto escapeNamesSpec)) escapeNamesUptoCard

/-- THE SECOND FORM's CARD OF 'fescuelaw28.ResolveNames'. -/
def resolveNamesUptoCard : Claim7 := { stood := { row := resolveNamesUptoRow, standIns := [], harness := (true, "66644182272b0fadaf434f5984e0127482179b4d0a33db0e0bcbdfba04e9a27e"), looks := true }, kinds := [], alts := [], laidByText := true, laidKinds := [.data, .data], laidTests := true, laidLooks := .later }
def ResolveNamesUptoCardSaid : Prop := Claim7.holds Tryz.pinned (.plain (OpenSpec.upto resolveNamesSpec)) resolveNamesUptoCard
end Rows
end Go.Proofs.YtlimihfdpfgedaaGreatDoor
