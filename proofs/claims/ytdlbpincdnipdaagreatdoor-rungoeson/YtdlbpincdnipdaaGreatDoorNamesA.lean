/- RunNames, part A: the listed variables, chapter 6's program, and that it is well formed, as the abstract machine reckons it. -/
import Derived.Test.YtdlbpincdnipdaaGreatDoorRows
import Derived.Test.YtdlbpincdnipdaaGreatDoorTie
import Derived.Test.YtdlbpincdnipdaaGreatDoorCards
import Derived.Test.YtdlbpincdnipdaaGreatDoorChecked
import Derived.Test.YtdlbpincdnipdaaGreatDoorMc
import Derived.ProofKit
import Derived.LaidMore
import Derived.LaidHandle
import Derived.OpenShut
import Derived.Stop.Joined
import Derived.SevenTiedAt
namespace Go.Proofs.YtdlbpincdnipdaaGreatDoor
open Go.ChangeShapes Go.WideShapes Go.ChangeAt Go.WideMaps Go.WideElems Go.RowKit Go.Ax
abbrev laidR : List (String × DataW Unit) := [("errors.errorType", Rows.laid_errors_errorType), ("fescue/shape.table", Rows.laid_fescue_shape_table)]
theorem own : ownKnob Tryz.prog.godebug = none := by kernel_rfl
theorem gTable : Tryz.prog.globalNamed "fescue/shape.table" = some 1 := by kernel_rfl
theorem door_met (os : Os) (args : Array Value) : laidMetH Tryz.prog laidR ((World.doorLaid Tryz.prog 43 os).forCall (fun _ _ => 0) ⟨#[], args, []⟩).memory :=
  laidMetH_of_parts3 (fuel := 8) (laidMet_of_run' 8 (by kernel_rfl) (by kernel_rfl)) (by kernel_rfl) (by kernel_rfl)
def shapeCells : List AV := [.bool false, .bool false, .bool false, .bool false, .bool false, .bool false, .bool false, .bool false, .bool true, .bool false, .bool false, .bool true, .bool false, .bool false, .bool false, .bool false, .bool false, .bool true, .bool false, .bool false, .bool true, .bool false, .bool false, .bool true, .bool true, .bool true, .bool false, .bool false, .bool false, .bool true, .bool true, .bool true, .bool false, .bool false, .bool false, .bool true, .bool true, .bool true, .bool false, .bool false, .bool false, .bool true, .bool true, .bool true, .bool false, .bool false, .bool false, .bool true, .bool true, .bool true, .bool false, .bool false, .bool false, .bool true, .bool true, .bool true, .bool false, .bool false, .bool false, .bool true, .bool true, .bool true, .bool false, .bool false, .bool false, .bool true, .bool false, .bool false, .bool false, .bool false, .bool false, .bool true, .bool false, .bool false, .bool false, .bool false, .bool false, .bool true, .bool true, .bool false, .bool false, .bool false, .bool false, .bool false, .bool true, .bool false, .bool true, .bool false, .bool false, .bool true, .bool true, .bool true, .bool false, .bool false, .bool false, .bool true, .bool true, .bool false, .bool false, .bool false, .bool false, .bool true, .bool true, .bool true, .bool false, .bool false, .bool false, .bool false, .bool false, .bool false, .bool true, .bool true, .bool false, .bool true, .bool true, .bool false, .bool false, .bool true, .bool false, .bool true, .bool false, .bool false, .bool false, .bool false, .bool false, .bool true, .bool true, .bool false, .bool false, .bool false, .bool false, .bool false, .bool false, .bool false, .bool false, .bool true, .bool true, .bool true]
abbrev tabR : List (Nat × List AV) := [(1, shapeCells)]
abbrev eqR : List Nat := [53, 62, 89, 108, 333, 341]
theorem flatR : flatD (Ctx.of Tryz.prog (glOf tabR) (knob eqR [])) 4 (((Tryz.prog.globals[1]?).map (·.type)).getD 0) Rows.laid_fescue_shape_table = some shapeCells := by kernel_rfl
theorem known {W : World} (h : laidMetH Tryz.prog laidR W) : Known Tryz.prog W tabR := by
  have h' : laidMet Tryz.prog [("fescue/shape.table", Rows.laid_fescue_shape_table)] W ∧ handlesMet Tryz.prog [("errors.errorType", Rows.laid_errors_errorType)] W := h
  obtain ⟨ps, ⟨g, t, cs, fuel, p, q, hg, ht, hv, htr, _, _⟩, _, _⟩ := h'.1
  obtain rfl := Option.some.inj (gTable.symm.trans hg)
  intro g l hm
  obtain ⟨rfl, rfl⟩ : g = 1 ∧ l = shapeCells := by simpa using hm
  have hf := flatR
  rw [ht] at hf
  simp only [World.var?, gTable, Option.bind_some] at hv
  split at hv
  case h_2 => cases hv
  rename_i arr e fz hw
  cases hv
  exact ⟨_, _, _, hw, fun m => flatD_rel 4 _ _ _ fuel _ p hf htr⟩
theorem eqsR : (eqR.all (eqCheck Tryz.prog)) = true := by kernel_rfl
theorem namesR : (Tryz.prog.funcs.all fun fn => !(fn.body.isSome && fn.name == "runtime.NumGoroutine")) = true := by kernel_rfl
theorem mixedR : Tryz.prog.follows .mixedOrders = true := by kernel_rfl
/-- The knobs, with what is told of calls. -/
abbrev kn (T : Tab) : Knob := knob eqR T
noncomputable abbrev cx (T : Tab) : Ctx := Ctx.of Tryz.prog (glOf tabR) (kn T)
/-- The conditions of the abstract machine. -/
theorem pok {W : World} (h : laidMetH Tryz.prog laidR W) {T : Tab} (hT : AllPure Tryz.prog (Go.Ax.frozen W) T) : POk Tryz.prog (Go.Ax.frozen W) (glOf tabR) (kn T) := pok_of (known h) eqsR namesR mixedR hT
/-- Chapter 6's program. -/
def pC : AV := .agg [.isl [[.int .u8 1, .int .i64 0, .int .i64 0, .nilsl], [.int .u8 3, .int .i64 0, .int .i64 0, .nilsl]], .isl [[.int .i64 1, .isl [[.isl [[.int .u8 1, .int .i64 0, .int .i64 0, .int .i64 0, .int .i64 5, .nilsl, .nilsl]], .int .u8 1, .int .i64 0, .int .i64 1, .int .i64 0], [.isl [[.int .u8 4, .int .i64 0, .int .i64 0, .int .i64 0, .int .i64 0, .nilsl, .nilsl]], .int .u8 3, .int .i64 1, .int .i64 0, .int .i64 0]]]]]
abbrev tab1 : Tab := [(21, [], pC)]
abbrev tab2 : Tab := [(21, [], pC), (109, [pC], .int .i64 0)]
abbrev tab3 : Tab := [(21, [], pC), (109, [pC], .int .i64 0), (90, [pC], .int .i64 0)]
theorem run_chapter : pureOk 100 pC (call Tryz.prog (cx []) 10000 21 [] h0) = true := by kernel_rfl
theorem run_shape : pureOk 100 (.int .i64 0) (call Tryz.prog (cx []) 10000 109 [pC] h0) = true := by kernel_rfl
theorem pure1 {W : World} (h : laidMetH Tryz.prog laidR W) : AllPure Tryz.prog (Go.Ax.frozen W) tab1 := .cons (pure_of_run (pok h .nil) rfl run_chapter) .nil
theorem pure2 {W : World} (h : laidMetH Tryz.prog laidR W) : AllPure Tryz.prog (Go.Ax.frozen W) tab2 := .cons (pure_of_run (pok h .nil) rfl run_chapter) (.cons (pure_of_run (pok h .nil) (by kernel_rfl) run_shape) .nil)
theorem run_sound : pureOk 100 (.int .i64 0) (call Tryz.prog (cx tab2) 10000 90 [pC] h0) = true := by kernel_rfl
theorem pure3 {W : World} (h : laidMetH Tryz.prog laidR W) : AllPure Tryz.prog (Go.Ax.frozen W) tab3 := .cons (pure_of_run (pok h .nil) rfl run_chapter) (.cons (pure_of_run (pok h .nil) (by kernel_rfl) run_shape) (.cons (pure_of_run (pok h (pure2 h)) (by kernel_rfl) run_sound) .nil))
end Go.Proofs.YtdlbpincdnipdaaGreatDoor
