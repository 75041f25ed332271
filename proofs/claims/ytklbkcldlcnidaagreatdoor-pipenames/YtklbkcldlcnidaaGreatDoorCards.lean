/-
  DERIVED. GIVEN WITH THE SEED: THE CARDS: each row of YtklbkcldlcnidaaGreatDoorRows.lean that lists a variable, with what it lists TIED to the program's text (the seventh form; the later family's looks); each row that meets fmt, with fmt's text TOLD by the authors' own Lean function (tested against real Go, not proved from fmt's source: count such statements apart). THE CARD IS WHAT COUNTS. Prove the row's statement (the work); the ties are given (YtklbkcldlcnidaaGreatDoorTie.lean); close each card by the builder's one call (the guide's Derived/Test/ToyasCard.lean, 'card_holds'). Laid BY PROGRAM, IN A SANDBOX (cutbox-door.mjs). By AI agents, Wed Nov 11 2026. No macro, syntax, notation, axiom, sorry.
-/
import Derived.Test.YtklbkcldlcnidaaGreatDoorRows
import GoSem.ClaimSeven
namespace Go.Proofs.YtklbkcldlcnidaaGreatDoor
namespace Rows

/-- THE TIED CARD OF 'fescuelaw32.PipeNames'. -/
def pipeNamesCard : Claim7 := { stood := { row := pipeNamesRow, standIns := [], harness := (true, "6f4d875cd2c4fab1bbdbf89cedd658649d4456f70770b1003fea37cde776cb6c"), looks := true }, kinds := [], alts := [], laidByText := true, laidKinds := [.data, .data], laidTests := true, laidLooks := .later }
def PipeNamesCardSaid : Prop := Claim7.holds Tryz.pinned (.plain (OpenSpec.ofChange pipeNamesSpec)) pipeNamesCard

/-- THE SECOND FORM's CARD OF 'fescuelaw32.PipeNames'. -/
def pipeNamesUptoCard : Claim7 := { stood := { row := pipeNamesUptoRow, standIns := [], harness := (true, "6f4d875cd2c4fab1bbdbf89cedd658649d4456f70770b1003fea37cde776cb6c"), looks := true }, kinds := [], alts := [], laidByText := true, laidKinds := [.data, .data], laidTests := true, laidLooks := .later }
def PipeNamesUptoCardSaid : Prop := Claim7.holds Tryz.pinned (.plain (OpenSpec.upto pipeNamesSpec)) pipeNamesUptoCard
end Rows
end Go.Proofs.YtklbkcldlcnidaaGreatDoor
