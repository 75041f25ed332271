/- WHAT IS PROVED: fescuelaw27.TidyNames answers true, and nothing that was there has turned (the row's condition: the listed variable is laid as the program's text lays it). -/
import Derived.Test.YtciljbmodhjpiaaGreatDoorTD
namespace Go.Proofs.YtciljbmodhjpiaaGreatDoor
open Go.ChangeShapes Go.WideShapes Go.ChangeAt Go.WideMaps Go.WideElems Go.RowKit Go.Ax
set_option maxHeartbeats 4000000 in
theorem tidyNames_card : Rows.TidyNamesCardSaid :=
  Claim7.holds_tied_plain_at .later [] [.data] true (true, "d2fe62925599a3dcc2cc523a2dff25ebade8b7ab1d6a7860cf63f0d30bae3e8b") true
    tidyNames_holds (fun _ h => by cases h) (by as_aux_lemma => kernel_rfl) (fun _ h => by cases h) tidyNames_row_tie rfl ⟨rfl, rfl⟩ (by as_aux_lemma => kernel_rfl) rfl
    (fun f fn hf hfn => by
      obtain rfl : f = 3 := Option.some.inj ((show Tryz.prog.funcNamed "fescue/fescuelaw27.TidyNames" = some 3 by kernel_rfl).symm.trans hf) |>.symm
      obtain rfl : fn = Tryz.f3 := (Option.some.inj (Tryz.func3.symm.trans hfn)).symm
      exact ⟨by as_aux_lemma => kernel_rfl, fun j t ht => by
        rw [Tryz.params3] at ht
        simp at ht⟩)
    (by as_aux_lemma => kernel_rfl)
#print axioms tidyNames_card
end Go.Proofs.YtciljbmodhjpiaaGreatDoor
