/- WHAT IS PROVED: fescuelaw24.CallsNames answers true, and nothing that was there has turned (the row's condition: the listed variable is laid as the program's text lays it). -/
import Derived.Test.YtifgafdcadffiaaGreatDoorCD
namespace Go.Proofs.YtifgafdcadffiaaGreatDoor
open Go.ChangeShapes Go.WideShapes Go.ChangeAt Go.WideMaps Go.WideElems Go.RowKit Go.Ax
set_option maxHeartbeats 4000000 in
theorem callsNames_card : Rows.CallsNamesCardSaid :=
  Claim7.holds_tied_plain_at .later [] [.data, .data] true (true, "f5a6c26a316a96f9bdf5144b31cedec6723a36b1ef69cbb23f2a6a576aec5070") true
    callsNames_holds (fun _ h => by cases h) (by as_aux_lemma => kernel_rfl) (fun _ h => by cases h) callsNames_row_tie rfl ⟨rfl, rfl⟩ (by as_aux_lemma => kernel_rfl) rfl
    (fun f fn hf hfn => by
      obtain rfl : f = 3 := Option.some.inj ((show Tryz.prog.funcNamed "fescue/fescuelaw24.CallsNames" = some 3 by kernel_rfl).symm.trans hf) |>.symm
      obtain rfl : fn = Tryz.f3 := (Option.some.inj (Tryz.func3.symm.trans hfn)).symm
      exact ⟨by as_aux_lemma => kernel_rfl, fun j t ht => by
        rw [Tryz.params3] at ht
        simp at ht⟩)
    (by as_aux_lemma => kernel_rfl)
#print axioms callsNames_card
end Go.Proofs.YtifgafdcadffiaaGreatDoor
