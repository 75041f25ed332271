/-
  DERIVED. GIVEN WITH THE SEED: THE CARDS: each row of YtciljbmodhjpiaaGreatDoorRows.lean that lists a variable, with what it lists TIED to the program's text (the seventh form; the later family's looks); each row that meets fmt, with fmt's text TOLD by the authors' own Lean function (tested against real Go, not proved from fmt's source: count such statements apart). THE CARD IS WHAT COUNTS. Prove the row's statement (the work); the ties are given (YtciljbmodhjpiaaGreatDoorTie.lean); close each card by the builder's one call (the guide's Derived/Test/ToyasCard.lean, 'card_holds'). Laid BY PROGRAM, IN A SANDBOX (cutbox-door.mjs). By AI agents, Wed Nov 11 2026. No macro, syntax, notation, axiom, sorry.
-/
import Derived.Test.YtciljbmodhjpiaaGreatDoorRows
import GoSem.ClaimSeven
namespace Go.Proofs.YtciljbmodhjpiaaGreatDoor
namespace Rows

/-- THE TIED CARD OF 'fescuelaw27.TidyNames'. -/
def tidyNamesCard : Claim7 := { stood := { row := tidyNamesRow, standIns := [], harness := (true, "d2fe62925599a3dcc2cc523a2dff25ebade8b7ab1d6a7860cf63f0d30bae3e8b"), looks := true }, kinds := [], alts := [], laidByText := true, laidKinds := [.data], laidTests := true, laidLooks := .later }
def TidyNamesCardSaid : Prop := Claim7.holds Tryz.pinned (.plain (OpenSpec.ofChange tidyNamesSpec)) tidyNamesCard

/-- THE TIED CARD OF 'fescuelaw16.StepNames'. -/
def stepNamesCard : Claim7 := { stood := { row := stepNamesRow, standIns := [], harness := (true, "d2fe62925599a3dcc2cc523a2dff25ebade8b7ab1d6a7860cf63f0d30bae3e8b"), looks := true }, kinds := [], alts := [], laidByText := true, laidKinds := [.handle, .data], laidTests := true, laidLooks := .later }
def StepNamesCardSaid : Prop := Claim7.holds Tryz.pinned (.plain (OpenSpec.ofChange stepNamesSpec)) stepNamesCard

/-- THE SECOND FORM's CARD OF 'fescuelaw27.TidyNames'. -/
def tidyNamesUptoCard : Claim7 := { stood := { row := tidyNamesUptoRow, standIns := [], harness := (true, "d2fe62925599a3dcc2cc523a2dff25ebade8b7ab1d6a7860cf63f0d30bae3e8b"), looks := true }, kinds := [], alts := [], laidByText := true, laidKinds := [.data], laidTests := true, laidLooks := .later }
def TidyNamesUptoCardSaid : Prop := Claim7.holds Tryz.pinned (.plain (OpenSpec.upto tidyNamesSpec)) tidyNamesUptoCard

/-- THE SECOND FORM's CARD OF 'fescuelaw16.StepNames'. -/
def stepNamesUptoCard : Claim7 := { stood := { row := stepNamesUptoRow, standIns := [], harness := (true, "d2fe62925599a3dcc2cc523a2dff25ebade8b7ab1d6a7860cf63f0d30bae3e8b"), looks := true }, kinds := [], alts := [], laidByText := true, laidKinds := [.handle, .data], laidTests := true, laidLooks := .later }
def StepNamesUptoCardSaid : Prop := Claim7.holds Tryz.pinned (.plain (OpenSpec.upto stepNamesSpec)) stepNamesUptoCard
end Rows
end Go.Proofs.YtciljbmodhjpiaaGreatDoor
