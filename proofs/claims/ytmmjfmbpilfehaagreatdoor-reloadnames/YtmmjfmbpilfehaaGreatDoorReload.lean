/- WHAT IS PROVED: fescuelaw31.ReloadNames answers true, and nothing that was there has turned (the row's condition: the listed variable is laid as the program's text lays it). -/
import Derived.Test.YtmmjfmbpilfehaaGreatDoorRD
namespace Go.Proofs.YtmmjfmbpilfehaaGreatDoor
open Go.ChangeShapes Go.WideShapes Go.ChangeAt Go.WideMaps Go.WideElems Go.RowKit Go.Ax
set_option maxHeartbeats 4000000 in
theorem reloadNames_card : Rows.ReloadNamesCardSaid :=
  Claim7.holds_tied_plain_at .later [] [.data, .data] true (true, "684bca6afca7acb251b361923bbad50a8f2cc75b097a751a6ac8211fd9dafb78") true
    reloadNames_holds (fun _ h => by cases h) (by as_aux_lemma => kernel_rfl) (fun _ h => by cases h) reloadNames_row_tie rfl ⟨rfl, rfl⟩ (by as_aux_lemma => kernel_rfl) rfl
    (fun f fn hf hfn => by
      obtain rfl : f = 3 := Option.some.inj ((show Tryz.prog.funcNamed "fescue/fescuelaw31.ReloadNames" = some 3 by kernel_rfl).symm.trans hf) |>.symm
      obtain rfl : fn = Tryz.f3 := (Option.some.inj (Tryz.func3.symm.trans hfn)).symm
      exact ⟨by as_aux_lemma => kernel_rfl, fun j t ht => by
        rw [Tryz.params3] at ht
        simp at ht⟩)
    (by as_aux_lemma => kernel_rfl)
#print axioms reloadNames_card
end Go.Proofs.YtmmjfmbpilfehaaGreatDoor
