/-
  DERIVED. GIVEN WITH THE SEED: THE CARDS: each row of YtdlbpincdnipdaaGreatDoorRows.lean that lists a variable, with what it lists TIED to the program's text (the seventh form; the later family's looks); each row that meets fmt, with fmt's text TOLD by the authors' own Lean function (tested against real Go, not proved from fmt's source: count such statements apart). THE CARD IS WHAT COUNTS. Prove the row's statement (the work); the ties are given (YtdlbpincdnipdaaGreatDoorTie.lean); close each card by the builder's one call (the guide's Derived/Test/ToyasCard.lean, 'card_holds'). Laid BY PROGRAM, IN A SANDBOX (cutbox-door.mjs). By AI agents, Wed Nov 11 2026. No macro, syntax, notation, axiom, sorry.
-/
import Derived.Test.YtdlbpincdnipdaaGreatDoorRows
import GoSem.ClaimSeven
namespace Go.Proofs.YtdlbpincdnipdaaGreatDoor
namespace Rows

/-- THE TIED CARD OF 'fescuelaw17.RunGoes'. -/
def runGoesCard : Claim7 := { stood := { row := runGoesRow, standIns := [], harness := (true, "64ab60c389fd8d23a1c1f9c926f766ad294dbcf2eac3b524d0bfbe1840d6adda"), looks := true }, kinds := [], alts := [], laidByText := true, laidKinds := [.handle, .data], laidTests := true, laidLooks := .later }
def RunGoesCardSaid : Prop := Claim7.holds Tryz.pinned (.plain (OpenSpec.ofChange runGoesSpec)) runGoesCard

/-- THE TIED CARD OF 'fescuelaw17.RunOn'. -/
def runOnCard : Claim7 := { stood := { row := runOnRow, standIns := [], harness := (true, "64ab60c389fd8d23a1c1f9c926f766ad294dbcf2eac3b524d0bfbe1840d6adda"), looks := true }, kinds := [], alts := [], laidByText := true, laidKinds := [.handle, .data], laidTests := true, laidLooks := .later }
def RunOnCardSaid : Prop := Claim7.holds Tryz.pinned (.plain (OpenSpec.ofChange runOnSpec)) runOnCard

/-- THE TIED CARD OF 'fescuelaw17.RunNames'. -/
def runNamesCard : Claim7 := { stood := { row := runNamesRow, standIns := [], harness := (true, "64ab60c389fd8d23a1c1f9c926f766ad294dbcf2eac3b524d0bfbe1840d6adda"), looks := true }, kinds := [], alts := [], laidByText := true, laidKinds := [.handle, .data], laidTests := true, laidLooks := .later }
def RunNamesCardSaid : Prop := Claim7.holds Tryz.pinned (.plain (OpenSpec.ofChange runNamesSpec)) runNamesCard

/-- THE TIED CARD OF 'fescuelaw17.RunMore'. -/
def runMoreCard : Claim7 := { stood := { row := runMoreRow, standIns := [], harness := (true, "64ab60c389fd8d23a1c1f9c926f766ad294dbcf2eac3b524d0bfbe1840d6adda"), looks := true }, kinds := [], alts := [], laidByText := true, laidKinds := [.handle, .data], laidTests := true, laidLooks := .later }
def RunMoreCardSaid : Prop := Claim7.holds Tryz.pinned (.plain (OpenSpec.ofChange runMoreSpec)) runMoreCard

/-- THE TIED CARD OF 'fescuelaw17.RunGoesOn'. -/
def runGoesOnCard : Claim7 := { stood := { row := runGoesOnRow, standIns := [], harness := (true, "64ab60c389fd8d23a1c1f9c926f766ad294dbcf2eac3b524d0bfbe1840d6adda"), looks := true }, kinds := [], alts := [], laidByText := true, laidKinds := [.handle, .data], laidTests := true, laidLooks := .later }
def RunGoesOnCardSaid : Prop := Claim7.holds Tryz.pinned (.plain (OpenSpec.ofChange runGoesOnSpec)) runGoesOnCard

/-- THE SECOND FORM's CARD OF 'fescuelaw17.RunGoes'. -/
def runGoesUptoCard : Claim7 := { stood := { row := runGoesUptoRow, standIns := [], harness := (true, "64ab60c389fd8d23a1c1f9c926f766ad294dbcf2eac3b524d0bfbe1840d6adda"), looks := true }, kinds := [], alts := [], laidByText := true, laidKinds := [.handle, .data], laidTests := true, laidLooks := .later }
def RunGoesUptoCardSaid : Prop := Claim7.holds Tryz.pinned (.plain (OpenSpec.upto runGoesSpec)) runGoesUptoCard

/-- THE SECOND FORM's CARD OF 'fescuelaw17.RunOn'. -/
def runOnUptoCard : Claim7 := { stood := { row := runOnUptoRow, standIns := [], harness := (true, "64ab60c389fd8d23a1c1f9c926f766ad294dbcf2eac3b524d0bfbe1840d6adda"), looks := true }, kinds := [], alts := [], laidByText := true, laidKinds := [.handle, .data], laidTests := true, laidLooks := .later }
def RunOnUptoCardSaid : Prop := Claim7.holds Tryz.pinned (.plain (OpenSpec.upto runOnSpec)) runOnUptoCard

/-- THE SECOND FORM's CARD OF 'fescuelaw17.RunNames'. -/
def runNamesUptoCard : Claim7 := { stood := { row := runNamesUptoRow, standIns := [], harness := (true, "64ab60c389fd8d23a1c1f9c926f766ad294dbcf2eac3b524d0bfbe1840d6adda"), looks := true }, kinds := [], alts := [], laidByText := true, laidKinds := [.handle, .data], laidTests := true, laidLooks := .later }
def RunNamesUptoCardSaid : Prop := Claim7.holds Tryz.pinned (.plain (OpenSpec.upto runNamesSpec)) runNamesUptoCard

/-- THE SECOND FORM's CARD OF 'fescuelaw17.RunMore'. -/
def runMoreUptoCard : Claim7 := { stood := { row := runMoreUptoRow, standIns := [], harness := (true, "64ab60c389fd8d23a1c1f9c926f766ad294dbcf2eac3b524d0bfbe1840d6adda"), looks := true }, kinds := [], alts := [], laidByText := true, laidKinds := [.handle, .data], laidTests := true, laidLooks := .later }
def RunMoreUptoCardSaid : Prop := Claim7.holds Tryz.pinned (.plain (OpenSpec.upto runMoreSpec)) runMoreUptoCard

/-- THE SECOND FORM's CARD OF 'fescuelaw17.RunGoesOn'. -/
def runGoesOnUptoCard : Claim7 := { stood := { row := runGoesOnUptoRow, standIns := [], harness := (true, "64ab60c389fd8d23a1c1f9c926f766ad294dbcf2eac3b524d0bfbe1840d6adda"), looks := true }, kinds := [], alts := [], laidByText := true, laidKinds := [.handle, .data], laidTests := true, laidLooks := .later }
def RunGoesOnUptoCardSaid : Prop := Claim7.holds Tryz.pinned (.plain (OpenSpec.upto runGoesOnSpec)) runGoesOnUptoCard
end Rows
end Go.Proofs.YtdlbpincdnipdaaGreatDoor
