/- WHAT IS PROVED: fescuelaw26.LoopNames answers true, and nothing that was there has turned (the row's condition: the listed variable is laid as the program's text lays it). -/
import Derived.Test.YtifgafdcadffiaaGreatDoorLD
namespace Go.Proofs.YtifgafdcadffiaaGreatDoor
open Go.ChangeShapes Go.WideShapes Go.ChangeAt Go.WideMaps Go.WideElems Go.RowKit Go.Ax
set_option maxHeartbeats 4000000 in
theorem loopNames_card : Rows.LoopNamesCardSaid :=
  Claim7.holds_tied_plain_at .later [] [.data, .data] true (true, "f5a6c26a316a96f9bdf5144b31cedec6723a36b1ef69cbb23f2a6a576aec5070") true
    loopNames_holds (fun _ h => by cases h) (by as_aux_lemma => kernel_rfl) (fun _ h => by cases h) loopNames_row_tie rfl ⟨rfl, rfl⟩ (by as_aux_lemma => kernel_rfl) rfl
    (fun f fn hf hfn => by
      obtain rfl : f = 4 := Option.some.inj ((show Tryz.prog.funcNamed "fescue/fescuelaw26.LoopNames" = some 4 by kernel_rfl).symm.trans hf) |>.symm
      obtain rfl : fn = Tryz.f4 := (Option.some.inj (Tryz.func4.symm.trans hfn)).symm
      exact ⟨by as_aux_lemma => kernel_rfl, fun j t ht => by
        rw [Tryz.params4] at ht
        simp at ht⟩)
    (by as_aux_lemma => kernel_rfl)
#print axioms loopNames_card
end Go.Proofs.YtifgafdcadffiaaGreatDoor
