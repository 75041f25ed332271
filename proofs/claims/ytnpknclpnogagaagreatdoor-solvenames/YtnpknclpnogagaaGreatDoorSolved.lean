/- WHAT IS PROVED: fescuelaw23.SolveNames answers true, and nothing that was there has turned (the row's condition: the listed variable is laid as the program's text lays it). -/
import Derived.Test.YtnpknclpnogagaaGreatDoorWD
namespace Go.Proofs.YtnpknclpnogagaaGreatDoor
open Go.ChangeShapes Go.WideShapes Go.ChangeAt Go.WideMaps Go.WideElems Go.RowKit Go.Ax
set_option maxHeartbeats 4000000 in
theorem solveNames_card : Rows.SolveNamesCardSaid :=
  Claim7.holds_tied_plain_at .later [] [.data, .data] true (true, "2cb0df369c85102aa05d21763666cfb202bce90b67b3f346417bac2bb0ad2d52") true
    solveNames_holds (fun _ h => by cases h) (by as_aux_lemma => kernel_rfl) (fun _ h => by cases h) solveNames_row_tie rfl ⟨rfl, rfl⟩ (by as_aux_lemma => kernel_rfl) rfl
    (fun f fn hf hfn => by
      obtain rfl : f = 3 := Option.some.inj ((show Tryz.prog.funcNamed "fescue/fescuelaw23.SolveNames" = some 3 by kernel_rfl).symm.trans hf) |>.symm
      obtain rfl : fn = Tryz.f3 := (Option.some.inj (Tryz.func3.symm.trans hfn)).symm
      exact ⟨by as_aux_lemma => kernel_rfl, fun j t ht => by
        rw [Tryz.params3] at ht
        simp at ht⟩)
    (by as_aux_lemma => kernel_rfl)
#print axioms solveNames_card
end Go.Proofs.YtnpknclpnogagaaGreatDoor
