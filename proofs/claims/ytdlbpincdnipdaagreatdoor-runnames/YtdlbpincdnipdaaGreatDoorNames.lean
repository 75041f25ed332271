/- WHAT IS PROVED: fescuelaw17.RunNames answers true, and nothing that was there has turned (the row's conditions: the two listed variables are laid as the program's text lays them). -/
import Derived.Test.YtdlbpincdnipdaaGreatDoorNamesD
namespace Go.Proofs.YtdlbpincdnipdaaGreatDoor
open Go.ChangeShapes Go.WideShapes Go.ChangeAt Go.WideMaps Go.WideElems Go.RowKit Go.Ax
set_option maxHeartbeats 4000000 in
theorem runNames_card : Rows.RunNamesCardSaid :=
  Claim7.holds_tied_plain_at .later [] [.handle, .data] true (true, "64ab60c389fd8d23a1c1f9c926f766ad294dbcf2eac3b524d0bfbe1840d6adda") true
    runNames_holds (fun _ h => by cases h) (by as_aux_lemma => kernel_rfl) (fun _ h => by cases h) runNames_row_tie rfl ⟨rfl, rfl⟩ (by as_aux_lemma => kernel_rfl) rfl
    (fun f fn hf hfn => by
      obtain rfl : f = 5 := Option.some.inj ((show Tryz.prog.funcNamed "fescue/fescuelaw17.RunNames" = some 5 by kernel_rfl).symm.trans hf) |>.symm
      obtain rfl : fn = Tryz.f5 := (Option.some.inj (Tryz.func5.symm.trans hfn)).symm
      exact ⟨by as_aux_lemma => kernel_rfl, fun j t ht => by
        rw [Tryz.params5] at ht
        simp at ht⟩)
    (by as_aux_lemma => kernel_rfl)
#print axioms runNames_card
end Go.Proofs.YtdlbpincdnipdaaGreatDoor
