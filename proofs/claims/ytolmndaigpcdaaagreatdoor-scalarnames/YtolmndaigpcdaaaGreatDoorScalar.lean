/- WHAT IS PROVED: fescuelaw30.ScalarNames answers true, and nothing that was there has turned (the row's condition: the listed variable is laid as the program's text lays it). -/
import Derived.Test.YtolmndaigpcdaaaGreatDoorKD
namespace Go.Proofs.YtolmndaigpcdaaaGreatDoor
open Go.ChangeShapes Go.WideShapes Go.ChangeAt Go.WideMaps Go.WideElems Go.RowKit Go.Ax
set_option maxHeartbeats 4000000 in
theorem scalarNames_card : Rows.ScalarNamesCardSaid :=
  Claim7.holds_tied_plain_at .later [] [.data] true (true, "79b25458553fdab444f4b4523ed6f912e45181ab89f25eb8e7399c4f242f72f6") true
    scalarNames_holds (fun _ h => by cases h) (by as_aux_lemma => kernel_rfl) (fun _ h => by cases h) scalarNames_row_tie rfl ⟨rfl, rfl⟩ (by as_aux_lemma => kernel_rfl) rfl
    (fun f fn hf hfn => by
      obtain rfl : f = 3 := Option.some.inj ((show Tryz.prog.funcNamed "fescue/fescuelaw30.ScalarNames" = some 3 by kernel_rfl).symm.trans hf) |>.symm
      obtain rfl : fn = Tryz.f3 := (Option.some.inj (Tryz.func3.symm.trans hfn)).symm
      exact ⟨by as_aux_lemma => kernel_rfl, fun j t ht => by
        rw [Tryz.params3] at ht
        simp at ht⟩)
    (by as_aux_lemma => kernel_rfl)
#print axioms scalarNames_card
end Go.Proofs.YtolmndaigpcdaaaGreatDoor
