/- WHAT IS PROVED: fescuelaw28.ResolveNames answers true, and nothing that was there has turned (the row's condition: the listed variable is laid as the program's text lays it). -/
import Derived.Test.YtlimihfdpfgedaaGreatDoorQD
namespace Go.Proofs.YtlimihfdpfgedaaGreatDoor
open Go.ChangeShapes Go.WideShapes Go.ChangeAt Go.WideMaps Go.WideElems Go.RowKit Go.Ax
set_option maxHeartbeats 4000000 in
theorem resolveNames_card : Rows.ResolveNamesCardSaid :=
  Claim7.holds_tied_plain_at .later [] [.data, .data] true (true, "66644182272b0fadaf434f5984e0127482179b4d0a33db0e0bcbdfba04e9a27e") true
    resolveNames_holds (fun _ h => by cases h) (by as_aux_lemma => kernel_rfl) (fun _ h => by cases h) resolveNames_row_tie rfl ⟨rfl, rfl⟩ (by as_aux_lemma => kernel_rfl) rfl
    (fun f fn hf hfn => by
      obtain rfl : f = 5 := Option.some.inj ((show Tryz.prog.funcNamed "fescue/fescuelaw28.ResolveNames" = some 5 by kernel_rfl).symm.trans hf) |>.symm
      obtain rfl : fn = Tryz.f5 := (Option.some.inj (Tryz.func5.symm.trans hfn)).symm
      exact ⟨by as_aux_lemma => kernel_rfl, fun j t ht => by
        rw [Tryz.params5] at ht
        simp at ht⟩)
    (by as_aux_lemma => kernel_rfl)
#print axioms resolveNames_card
end Go.Proofs.YtlimihfdpfgedaaGreatDoor
