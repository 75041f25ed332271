/-
  DERIVED. GIVEN WITH THE SEED: THE CARDS: each row of YtifgafdcadffiaaGreatDoorRows.lean that lists a variable, with what it lists TIED to the program's text (the seventh form; the later family's looks); each row that meets fmt, with fmt's text TOLD by the authors' own Lean function (tested against real Go, not proved from fmt's source: count such statements apart). THE CARD IS WHAT COUNTS. Prove the row's statement (the work); the ties are given (YtifgafdcadffiaaGreatDoorTie.lean); close each card by the builder's one call (the guide's Derived/Test/ToyasCard.lean, 'card_holds'). Laid BY PROGRAM, IN A SANDBOX (cutbox-door.mjs). By AI agents, Wed Nov 11 2026. No macro, syntax, notation, axiom, sorry.
-/
import Derived.Test.YtifgafdcadffiaaGreatDoorRows
import GoSem.ClaimSeven
namespace Go.Proofs.YtifgafdcadffiaaGreatDoor
namespace Rows

/-- THE TIED CARD OF 'fescuelaw24.CallsNames'. -/
def callsNamesCard : Claim7 := { stood := { row := callsNamesRow, standIns := [], harness := (true, "f5a6c26a316a96f9bdf5144b31cedec6723a36b1ef69cbb23f2a6a576aec5070"), looks := true }, kinds := [], alts := [], laidByText := true, laidKinds := [.data, .data], laidTests := true, laidLooks := .later }
def CallsNamesCardSaid : Prop := Claim7.holds Tryz.pinned (.plain (OpenSpec.ofChange callsNamesSpec)) callsNamesCard

/-- THE TIED CARD OF 'fescuelaw26.LoopNames'. -/
def loopNamesCard : Claim7 := { stood := { row := loopNamesRow, standIns := [], harness := (true, "f5a6c26a316a96f9bdf5144b31cedec6723a36b1ef69cbb23f2a6a576aec5070"), looks := true }, kinds := [], alts := [], laidByText := true, laidKinds := [.data, .data], laidTests := true, laidLooks := .later }
def LoopNamesCardSaid : Prop := Claim7.holds Tryz.pinned (.plain (OpenSpec.ofChange loopNamesSpec)) loopNamesCard

/-- THE SECOND FORM's CARD OF 'fescuelaw24.CallsNames'. -/
def callsNamesUptoCard : Claim7 := { stood := { row := callsNamesUptoRow, standIns := [], harness := (true, "f5a6c26a316a96f9bdf5144b31cedec6723a36b1ef69cbb23f2a6a576aec5070"), looks := true }, kinds := [], alts := [], laidByText := true, laidKinds := [.data, .data], laidTests := true, laidLooks := .later }
def CallsNamesUptoCardSaid : Prop := Claim7.holds Tryz.pinned (.plain (OpenSpec.upto callsNamesSpec)) callsNamesUptoCard

/-- THE SECOND FORM's CARD OF 'fescuelaw26.LoopNames'. -/
def loopNamesUptoCard : Claim7 := { stood := { row := loopNamesUptoRow, standIns := [], harness := (true, "f5a6c26a316a96f9bdf5144b31cedec6723a36b1ef69cbb23f2a6a576aec5070"), looks := true }, kinds := [], alts := [], laidByText := true, laidKinds := [.data, .data], laidTests := true, laidLooks := .later }
def LoopNamesUptoCardSaid : Prop := Claim7.holds Tryz.pinned (.plain (OpenSpec.upto loopNamesSpec)) loopNamesUptoCard
end Rows
end Go.Proofs.YtifgafdcadffiaaGreatDoor
