/-
  DERIVED. GIVEN WITH THE SEED: THE CARDS: each row of YtflfodegogjefaaGreatDoorRows.lean that lists a variable, with what it lists TIED to the program's text (the seventh form; the later family's looks); each row that meets fmt, with fmt's text TOLD by the authors' own Lean function (tested against real Go, not proved from fmt's source: count such statements apart). THE CARD IS WHAT COUNTS. Prove the row's statement (the work); the ties are given (YtflfodegogjefaaGreatDoorTie.lean); close each card by the builder's one call (the guide's Derived/Test/ToyasCard.lean, 'card_holds'). Laid BY PROGRAM, IN A SANDBOX (cutbox-door.mjs). By AI agents, Wed Nov 11 2026. No macro, syntax, notation, axiom, sorry.
-/
import Derived.Test.YtflfodegogjefaaGreatDoorRows
import GoSem.ClaimSeven
namespace Go.Proofs.YtflfodegogjefaaGreatDoor
namespace Rows

/-- THE TIED CARD OF 'fescuelaw27.TidyDrops'. -/
def tidyDropsCard : Claim7 := { stood := { row := tidyDropsRow, standIns := [], harness := (true, "24b7330209ef5bdf40221580dc95b7274663cbcc0d8003592c214c84267ed3cd"), looks := true }, kinds := [], alts := [], laidByText := true, laidKinds := [.data], laidTests := true, laidLooks := .later }
def TidyDropsCardSaid : Prop := Claim7.holds Tryz.pinned (.plain (OpenSpec.ofChange tidyDropsSpec)) tidyDropsCard

/-- THE TIED CARD OF 'fescuelaw27.TidySwaps'. -/
def tidySwapsCard : Claim7 := { stood := { row := tidySwapsRow, standIns := [], harness := (true, "24b7330209ef5bdf40221580dc95b7274663cbcc0d8003592c214c84267ed3cd"), looks := true }, kinds := [], alts := [], laidByText := true, laidKinds := [.data], laidTests := true, laidLooks := .later }
def TidySwapsCardSaid : Prop := Claim7.holds Tryz.pinned (.plain (OpenSpec.ofChange tidySwapsSpec)) tidySwapsCard

/-- THE SECOND FORM's CARD OF 'fescuelaw27.TidyDrops'. -/
def tidyDropsUptoCard : Claim7 := { stood := { row := tidyDropsUptoRow, standIns := [], harness := (true, "24b7330209ef5bdf40221580dc95b7274663cbcc0d8003592c214c84267ed3cd"), looks := true }, kinds := [], alts := [], laidByText := true, laidKinds := [.data], laidTests := true, laidLooks := .later }
def TidyDropsUptoCardSaid : Prop := Claim7.holds Tryz.pinned (.plain (OpenSpec.upto tidyDropsSpec)) tidyDropsUptoCard

/-- THE SECOND FORM's CARD OF 'fescuelaw27.TidySwaps'. -/
def tidySwapsUptoCard : Claim7 := { stood := { row := tidySwapsUptoRow, standIns := [], harness := (true, "24b7330209ef5bdf40221580dc95b7274663cbcc0d8003592c214c84267ed3cd"), looks := true }, kinds := [], alts := [], laidByText := true, laidKinds := [.data], laidTests := true, laidLooks := .later }
def TidySwapsUptoCardSaid : Prop := Claim7.holds Tryz.pinned (.plain (OpenSpec.upto tidySwapsSpec)) tidySwapsUptoCard
end Rows
end Go.Proofs.YtflfodegogjefaaGreatDoor
