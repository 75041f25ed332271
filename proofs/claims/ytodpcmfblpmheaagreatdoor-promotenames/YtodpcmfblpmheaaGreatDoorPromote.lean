/- WHAT IS PROVED: fescuelaw29.PromoteNames answers true, and nothing that was there has turned (the row's condition: the listed variable is laid as the program's text lays it). -/
import Derived.Test.YtodpcmfblpmheaaGreatDoorPD
namespace Go.Proofs.YtodpcmfblpmheaaGreatDoor
open Go.ChangeShapes Go.WideShapes Go.ChangeAt Go.WideMaps Go.WideElems Go.RowKit Go.Ax
set_option maxHeartbeats 4000000 in
theorem promoteNames_card : Rows.PromoteNamesCardSaid :=
  Claim7.holds_tied_plain_at .later [] [.data, .data] true (true, "6513ccc4cf45a7ce4e744bb4e36556450bf44a786ae5f246d32d4951b4d75631") true
    promoteNames_holds (fun _ h => by cases h) (by as_aux_lemma => kernel_rfl) (fun _ h => by cases h) promoteNames_row_tie rfl ⟨rfl, rfl⟩ (by as_aux_lemma => kernel_rfl) rfl
    (fun f fn hf hfn => by
      obtain rfl : f = 3 := Option.some.inj ((show Tryz.prog.funcNamed "fescue/fescuelaw29.PromoteNames" = some 3 by kernel_rfl).symm.trans hf) |>.symm
      obtain rfl : fn = Tryz.f3 := (Option.some.inj (Tryz.func3.symm.trans hfn)).symm
      exact ⟨by as_aux_lemma => kernel_rfl, fun j t ht => by
        rw [Tryz.params3] at ht
        simp at ht⟩)
    (by as_aux_lemma => kernel_rfl)
#print axioms promoteNames_card
end Go.Proofs.YtodpcmfblpmheaaGreatDoor
