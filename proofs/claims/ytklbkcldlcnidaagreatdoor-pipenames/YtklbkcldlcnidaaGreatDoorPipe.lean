/- WHAT IS PROVED: fescuelaw32.PipeNames answers true, and nothing that was there has turned (the row's condition: the listed variable is laid as the program's text lays it). -/
import Derived.Test.YtklbkcldlcnidaaGreatDoorPD
namespace Go.Proofs.YtklbkcldlcnidaaGreatDoor
open Go.ChangeShapes Go.WideShapes Go.ChangeAt Go.WideMaps Go.WideElems Go.RowKit Go.Ax
/-- Where no function starts a goroutine, no call does. -/
theorem goes_none {P : Program} (h : (P.funcs.toList.all fun fn => !fn.goes) = true) (f : FuncId) : P.goes f = false := by
  have h1 : ∀ g : Nat, (P.funcs[g]?).any Func.goes = false := fun g => by
    cases hg : P.funcs[g]? with
    | none => rfl
    | some fn =>
      have hm : fn ∈ P.funcs.toList := by
        rw [Array.mem_toList_iff]
        exact Array.mem_of_getElem? hg
      have := List.all_eq_true.1 h fn hm
      simpa using this
  have h2 : P.funcs.any Func.goes = false := by
    rw [← Array.any_toList, List.any_eq_false]
    intro fn hm
    have := List.all_eq_true.1 h fn hm
    simpa using this
  unfold Program.goes
  rw [h2, Bool.and_false, Bool.or_false, List.any_eq_false]
  intro g _
  rw [h1 g]
  decide
theorem noGo0 : ((Tryz.prog.funcs.toList.take 150).all fun fn => !fn.goes) = true := by as_aux_lemma => kernel_rfl
theorem noGo1 : (((Tryz.prog.funcs.toList.drop 150).take 150).all fun fn => !fn.goes) = true := by as_aux_lemma => kernel_rfl
theorem noGo2 : (((Tryz.prog.funcs.toList.drop 150).drop 150).all fun fn => !fn.goes) = true := by as_aux_lemma => kernel_rfl
theorem noGo : (Tryz.prog.funcs.toList.all fun fn => !fn.goes) = true := by
  rw [← List.take_append_drop 150 Tryz.prog.funcs.toList, List.all_append, noGo0, ← List.take_append_drop 150 (Tryz.prog.funcs.toList.drop 150), List.all_append, noGo1, noGo2]
  rfl
theorem goesBy_none {c : OpenClaim} {P : Program} {f : FuncId} (hs : c.start = .entering) (hf : P.funcNamed c.func = some f) (h : P.goes f = false) : false = c.goesBy P := by
  unfold OpenClaim.goesBy Program.goesAt Program.goesFrom
  rw [hs, hf]
  simp [h]
theorem partGo : false = Rows.pipeNamesRow.goesBy Tryz.pinned.checked.prog :=
  goesBy_none (f := 3) rfl (by kernel_rfl) (goes_none noGo 3)
theorem partMain : Tryz.pinned.checked.prog.mainIs = some (true, "6f4d875cd2c4fab1bbdbf89cedd658649d4456f70770b1003fea37cde776cb6c".toList) := by kernel_rfl
theorem partLook : true = Tryz.prog.looks [] := by kernel_rfl
theorem partFn : ∀ f fn, Tryz.pinned.checked.prog.funcNamed Rows.pipeNamesRow.func = some f → Tryz.pinned.checked.prog.funcs[f]? = some fn → true = Tryz.pinned.checked.prog.looks [] ∧ ∀ (j : Nat) t, fn.params[j]? = some t → Tryz.pinned.checked.prog.wantsStandIn t = false := fun f fn hf hfn => by
  obtain rfl : f = 3 := Option.some.inj ((show Tryz.prog.funcNamed "fescue/fescuelaw32.PipeNames" = some 3 by kernel_rfl).symm.trans hf) |>.symm
  obtain rfl : fn = Tryz.f3 := (Option.some.inj (Tryz.func3.symm.trans hfn)).symm
  exact ⟨partLook, fun j t ht => by
    rw [Tryz.params3] at ht
    simp at ht⟩
set_option maxHeartbeats 4000000 in
theorem pipeNames_card : Rows.PipeNamesCardSaid :=
  Claim7.holds_tied_plain_at .later [] [.data, .data] true (true, "6f4d875cd2c4fab1bbdbf89cedd658649d4456f70770b1003fea37cde776cb6c") true
    pipeNames_holds (fun _ h => by cases h) (by as_aux_lemma => kernel_rfl) (fun _ h => by cases h) pipeNames_row_tie rfl ⟨rfl, rfl⟩ partMain rfl partFn
    partGo
#print axioms pipeNames_card
end Go.Proofs.YtklbkcldlcnidaaGreatDoor
