/-
  DERIVED. GIVEN WITH THE SEED: THE CARDS: each row of YtdfjkochhifpmaaGreatDoorRows.lean that lists a variable, with what it lists TIED to the program's text (the seventh form; the later family's looks); each row that meets fmt, with fmt's text TOLD by the authors' own Lean function (tested against real Go, not proved from fmt's source: count such statements apart). THE CARD IS WHAT COUNTS. Prove the row's statement (the work); the ties are given (YtdfjkochhifpmaaGreatDoorTie.lean); close each card by the builder's one call (the guide's Derived/Test/ToyasCard.lean, 'card_holds'). Laid BY PROGRAM, IN A SANDBOX (cutbox-door.mjs). By AI agents, Wed Nov 11 2026. No macro, syntax, notation, axiom, sorry.
-/
import Derived.Test.YtdfjkochhifpmaaGreatDoorRows
import GoSem.ClaimSeven
namespace Go.Proofs.YtdfjkochhifpmaaGreatDoor
namespace Rows

/-- THE TIED CARD OF 'fescuelaw16.StepTells'. -/
def stepTellsCard : Claim7 := { stood := { row := stepTellsRow, standIns := [], harness := (true, "7f0e197a7e5d58f74c6c9f1ba1c296ee1089329aa7f2eb9dda46b7534e29acca"), looks := true }, kinds := [], alts := [], laidByText := true, laidKinds := [.data], laidTests := true, laidLooks := .later }
def StepTellsCardSaid : Prop := Claim7.holds Tryz.pinned (.plain (OpenSpec.ofChange stepTellsSpec)) stepTellsCard

/-- THE TIED CARD OF 'fescuelaw27.TidyPuts'. -/
def tidyPutsCard : Claim7 := { stood := { row := tidyPutsRow, standIns := [], harness := (true, "7f0e197a7e5d58f74c6c9f1ba1c296ee1089329aa7f2eb9dda46b7534e29acca"), looks := true }, kinds := [], alts := [], laidByText := true, laidKinds := [.data], laidTests := true, laidLooks := .later }
def TidyPutsCardSaid : Prop := Claim7.holds Tryz.pinned (.plain (OpenSpec.ofChange tidyPutsSpec)) tidyPutsCard

/-- THE SECOND FORM's CARD OF 'fescuelaw16.StepTells'. -/
def stepTellsUptoCard : Claim7 := { stood := { row := stepTellsUptoRow, standIns := [], harness := (true, "7f0e197a7e5d58f74c6c9f1ba1c296ee1089329aa7f2eb9dda46b7534e29acca"), looks := true }, kinds := [], alts := [], laidByText := true, laidKinds := [.data], laidTests := true, laidLooks := .later }
def StepTellsUptoCardSaid : Prop := Claim7.holds Tryz.pinned (.plain (OpenSpec.upto stepTellsSpec)) stepTellsUptoCard

/-- THE SECOND FORM's CARD OF 'fescuelaw27.TidyPuts'. -/
def tidyPutsUptoCard : Claim7 := { stood := { row := tidyPutsUptoRow, standIns := [], harness := (true, "7f0e197a7e5d58f74c6c9f1ba1c296ee1089329aa7f2eb9dda46b7534e29acca"), looks := true }, kinds := [], alts := [], laidByText := true, laidKinds := [.data], laidTests := true, laidLooks := .later }
def TidyPutsUptoCardSaid : Prop := Claim7.holds Tryz.pinned (.plain (OpenSpec.upto tidyPutsSpec)) tidyPutsUptoCard
end Rows
end Go.Proofs.YtdfjkochhifpmaaGreatDoor
