/- TidyNames, part 0: the listed variable, the knobs and the conditions of the abstract machine. -/
import Derived.Test.YtciljbmodhjpiaaGreatDoorRows
import Derived.Test.YtciljbmodhjpiaaGreatDoorTie
import Derived.Test.YtciljbmodhjpiaaGreatDoorCards
import Derived.Test.YtciljbmodhjpiaaGreatDoorChecked
import Derived.Test.YtciljbmodhjpiaaGreatDoorMc
import Derived.ProofKit
import Derived.LaidMore
import Derived.LaidHandle
import Derived.OpenShut
import Derived.Stop.Joined
import Derived.SevenTiedAt
namespace Go.Proofs.YtciljbmodhjpiaaGreatDoor
open Go.ChangeShapes Go.WideShapes Go.ChangeAt Go.WideMaps Go.WideElems Go.RowKit Go.Ax
abbrev laidR : List (String × DataW Unit) := [("fescue/shape.table", Rows.laid_fescue_shape_table)]
theorem own : ownKnob Tryz.prog.godebug = none := by kernel_rfl
theorem gTable : Tryz.prog.globalNamed "fescue/shape.table" = some 1 := by kernel_rfl
theorem door_met (os : Os) (args : Array Value) : laidMetH Tryz.prog laidR ((World.doorLaid Tryz.prog 58 os).forCall (fun _ _ => 0) ⟨#[], args, []⟩).memory :=
  laidMetH_of_parts3 (fuel := 8) (laidMet_of_run' 8 (by kernel_rfl) (by kernel_rfl)) (by kernel_rfl) (by kernel_rfl)
def shapeCells : List AV := [.bool false, .bool false, .bool false, .bool false, .bool false, .bool false, .bool false, .bool false, .bool true, .bool false, .bool false, .bool true, .bool false, .bool false, .bool false, .bool false, .bool false, .bool true, .bool false, .bool false, .bool true, .bool false, .bool false, .bool true, .bool true, .bool true, .bool false, .bool false, .bool false, .bool true, .bool true, .bool true, .bool false, .bool false, .bool false, .bool true, .bool true, .bool true, .bool false, .bool false, .bool false, .bool true, .bool true, .bool true, .bool false, .bool false, .bool false, .bool true, .bool true, .bool true, .bool false, .bool false, .bool false, .bool true, .bool true, .bool true, .bool false, .bool false, .bool false, .bool true, .bool true, .bool true, .bool false, .bool false, .bool false, .bool true, .bool false, .bool false, .bool false, .bool false, .bool false, .bool true, .bool false, .bool false, .bool false, .bool false, .bool false, .bool true, .bool true, .bool false, .bool false, .bool false, .bool false, .bool false, .bool true, .bool false, .bool true, .bool false, .bool false, .bool true, .bool true, .bool true, .bool false, .bool false, .bool false, .bool true, .bool true, .bool false, .bool false, .bool false, .bool false, .bool true, .bool true, .bool true, .bool false, .bool false, .bool false, .bool false, .bool false, .bool false, .bool true, .bool true, .bool false, .bool true, .bool true, .bool false, .bool false, .bool true, .bool false, .bool true, .bool false, .bool false, .bool false, .bool false, .bool false, .bool true, .bool true, .bool false, .bool false, .bool false, .bool false, .bool false, .bool false, .bool false, .bool false, .bool true, .bool true, .bool true]
abbrev tabR : List (Nat × List AV) := [(1, shapeCells)]
abbrev eqR : List Nat := [43, 235, 361]
abbrev extR : FuncId → List AV → Option AV := extF 287 228
abbrev kn (T : Tab) : Knob := knobX eqR T extR (fun _ _ _ => none)
noncomputable abbrev cx (T : Tab) : Ctx := Ctx.of Tryz.prog (glOf tabR) (kn T)
theorem flatR : flatD (cx []) 4 (((Tryz.prog.globals[1]?).map (·.type)).getD 0) Rows.laid_fescue_shape_table = some shapeCells := by kernel_rfl
theorem known {W : World} (h : laidMetH Tryz.prog laidR W) : Known Tryz.prog W tabR := by
  have h' : laidMet Tryz.prog [("fescue/shape.table", Rows.laid_fescue_shape_table)] W := h
  obtain ⟨ps, ⟨g, t, cs, fuel, p, q, hg, ht, hv, htr, _, _⟩, _, _⟩ := h'
  obtain rfl := Option.some.inj (gTable.symm.trans hg)
  intro g l hm
  obtain ⟨rfl, rfl⟩ : g = 1 ∧ l = shapeCells := by simpa using hm
  have hf := flatR
  rw [ht] at hf
  simp only [World.var?, gTable, Option.bind_some] at hv
  split at hv
  case h_2 => cases hv
  rename_i arr e fz hw
  cases hv
  exact ⟨_, _, _, hw, fun m => flatD_rel 4 _ _ _ fuel _ p hf htr⟩
theorem eqsR : (eqR.all (eqCheck Tryz.prog)) = true := by kernel_rfl
theorem namesR : (Tryz.prog.funcs.all fun fn => !(fn.body.isSome && fn.name == "runtime.NumGoroutine")) = true := by kernel_rfl
theorem mixedR : Tryz.prog.follows .mixedOrders = true := by kernel_rfl
theorem extsR {F : Nat → Option Obj} : ExtOk Tryz.prog F extR :=
  extOk_of (show Tryz.prog.funcs[287]? = some Tryz.f287 by kernel_rfl) (by kernel_rfl) (by kernel_rfl) (by kernel_rfl) (by kernel_rfl) (show Tryz.prog.funcs[228]? = some Tryz.f228 by kernel_rfl) (by kernel_rfl) (by kernel_rfl) (by kernel_rfl) (by kernel_rfl)
/-- The conditions of the abstract machine. -/
theorem pok {W : World} (h : laidMetH Tryz.prog laidR W) {T : Tab} (hT : AllPure Tryz.prog (Go.Ax.frozen W) T) : POk Tryz.prog (Go.Ax.frozen W) (glOf tabR) (kn T) := pok_ofX (known h) eqsR namesR mixedR hT extsR (fun _ _ _ _ _ h => by cases h)
end Go.Proofs.YtciljbmodhjpiaaGreatDoor
