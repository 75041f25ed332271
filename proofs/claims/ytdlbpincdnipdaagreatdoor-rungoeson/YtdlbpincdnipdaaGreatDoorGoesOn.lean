/- WHAT IS PROVED: fescuelaw17.RunGoesOn answers true for every three machines, and its arguments read behind the call as they read before (the row's conditions: the two listed variables are laid as the program's text lays them). -/
import Derived.Test.YtdlbpincdnipdaaGreatDoorGoesOnD
namespace Go.Proofs.YtdlbpincdnipdaaGreatDoor
open Go.ChangeShapes Go.WideShapes Go.ChangeAt Go.WideMaps Go.WideElems Go.RowKit Go.Ax
set_option maxHeartbeats 4000000 in
theorem runGoesOn_card : Rows.RunGoesOnCardSaid :=
  Claim7.holds_tied_plain_at .later [] [.handle, .data] true (true, "64ab60c389fd8d23a1c1f9c926f766ad294dbcf2eac3b524d0bfbe1840d6adda") true
    runGoesOn_holds (fun _ h => by cases h) (by as_aux_lemma => kernel_rfl) (fun _ h => by cases h) runGoesOn_row_tie rfl ⟨rfl, rfl⟩ (by as_aux_lemma => kernel_rfl) rfl
    (fun f fn hf hfn => by
      obtain rfl : f = 7 := Option.some.inj ((show Tryz.prog.funcNamed "fescue/fescuelaw17.RunGoesOn" = some 7 by kernel_rfl).symm.trans hf) |>.symm
      obtain rfl : fn = Tryz.f7 := (Option.some.inj (Tryz.func7.symm.trans hfn)).symm
      exact ⟨by as_aux_lemma => kernel_rfl, fun j t ht => by
        rw [Tryz.params7] at ht
        have hm : t ∈ [34, 34, 34] := by simpa using Array.mem_of_getElem? ht
        have hall : ([34, 34, 34].all fun u => !Tryz.prog.wantsStandIn u) = true := by kernel_rfl
        exact (show Tryz.prog.wantsStandIn t = false by simpa using List.all_eq_true.1 hall t hm)⟩)
    (by as_aux_lemma => kernel_rfl)
#print axioms runGoesOn_card
end Go.Proofs.YtdlbpincdnipdaaGreatDoor
