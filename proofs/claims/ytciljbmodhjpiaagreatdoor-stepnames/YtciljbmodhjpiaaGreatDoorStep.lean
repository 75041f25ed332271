/- WHAT IS PROVED: fescuelaw16.StepNames answers true, and nothing that was there has turned (the row's conditions: the two listed variables are laid as the program's text lays them). -/
import Derived.Test.YtciljbmodhjpiaaGreatDoorSD
namespace Go.Proofs.YtciljbmodhjpiaaGreatDoor
open Go.ChangeShapes Go.WideShapes Go.ChangeAt Go.WideMaps Go.WideElems Go.RowKit Go.Ax
set_option maxHeartbeats 4000000 in
theorem stepNames_card : Rows.StepNamesCardSaid :=
  Claim7.holds_tied_plain_at .later [] [.handle, .data] true (true, "d2fe62925599a3dcc2cc523a2dff25ebade8b7ab1d6a7860cf63f0d30bae3e8b") true
    stepNames_holds (fun _ h => by cases h) (by as_aux_lemma => kernel_rfl) (fun _ h => by cases h) stepNames_row_tie rfl ⟨rfl, rfl⟩ (by as_aux_lemma => kernel_rfl) rfl
    (fun f fn hf hfn => by
      obtain rfl : f = 4 := Option.some.inj ((show Tryz.prog.funcNamed "fescue/fescuelaw16.StepNames" = some 4 by kernel_rfl).symm.trans hf) |>.symm
      obtain rfl : fn = Tryz.f4 := (Option.some.inj (Tryz.func4.symm.trans hfn)).symm
      exact ⟨by as_aux_lemma => kernel_rfl, fun j t ht => by
        rw [Tryz.params4] at ht
        simp at ht⟩)
    (by as_aux_lemma => kernel_rfl)
#print axioms stepNames_card
end Go.Proofs.YtciljbmodhjpiaaGreatDoor
