/- CallsNames, part 0: the listed variables, the knobs and the conditions of the abstract machine. -/
import Derived.Test.YtifgafdcadffiaaGreatDoorRows
import Derived.Test.YtifgafdcadffiaaGreatDoorTie
import Derived.Test.YtifgafdcadffiaaGreatDoorCards
import Derived.Test.YtifgafdcadffiaaGreatDoorChecked
import Derived.Test.YtifgafdcadffiaaGreatDoorMn
import Derived.ProofKit
import Derived.LaidMore
import Derived.LaidHandle
import Derived.OpenShut
import Derived.Stop.Joined
import Derived.SevenTiedAt
namespace Go.Proofs.YtifgafdcadffiaaGreatDoor
open Go.ChangeShapes Go.WideShapes Go.ChangeAt Go.WideMaps Go.WideElems Go.RowKit Go.Ax
abbrev laidR : List (String × DataW Unit) := [("math/bits.deBruijn64tab", Rows.laid_math_bits_deBruijn64tab), ("fescue/shape.table", Rows.laid_fescue_shape_table)]
theorem own : ownKnob Tryz.prog.godebug = none := by kernel_rfl
theorem gTable : Tryz.prog.globalNamed "fescue/shape.table" = some 0 := by kernel_rfl
theorem gBruijn : Tryz.prog.globalNamed "math/bits.deBruijn64tab" = some 1 := by kernel_rfl
theorem door_met (os : Os) (args : Array Value) : laidMetH Tryz.prog laidR ((World.doorLaid Tryz.prog 351 os).forCall (fun _ _ => 0) ⟨#[], args, []⟩).memory :=
  laidMetH_of_parts3 (fuel := 8) (laidMet_of_run' 8 (by kernel_rfl) (by kernel_rfl)) (by kernel_rfl) (by kernel_rfl)
def shapeCells : List AV := [.bool false, .bool false, .bool false, .bool false, .bool false, .bool false, .bool false, .bool false, .bool true, .bool false, .bool false, .bool true, .bool false, .bool false, .bool false, .bool false, .bool false, .bool true, .bool false, .bool false, .bool true, .bool false, .bool false, .bool true, .bool true, .bool true, .bool false, .bool false, .bool false, .bool true, .bool true, .bool true, .bool false, .bool false, .bool false, .bool true, .bool true, .bool true, .bool false, .bool false, .bool false, .bool true, .bool true, .bool true, .bool false, .bool false, .bool false, .bool true, .bool true, .bool true, .bool false, .bool false, .bool false, .bool true, .bool true, .bool true, .bool false, .bool false, .bool false, .bool true, .bool true, .bool true, .bool false, .bool false, .bool false, .bool true, .bool false, .bool false, .bool false, .bool false, .bool false, .bool true, .bool false, .bool false, .bool false, .bool false, .bool false, .bool true, .bool true, .bool false, .bool false, .bool false, .bool false, .bool false, .bool true, .bool false, .bool true, .bool false, .bool false, .bool true, .bool true, .bool true, .bool false, .bool false, .bool false, .bool true, .bool true, .bool false, .bool false, .bool false, .bool false, .bool true, .bool true, .bool true, .bool false, .bool false, .bool false, .bool false, .bool false, .bool false, .bool true, .bool true, .bool false, .bool true, .bool true, .bool false, .bool false, .bool true, .bool false, .bool true, .bool false, .bool false, .bool false, .bool false, .bool false, .bool true, .bool true, .bool false, .bool false, .bool false, .bool false, .bool false, .bool false, .bool false, .bool false, .bool true, .bool true, .bool true]
def bruijn : List AV := [.int .u8 0, .int .u8 1, .int .u8 56, .int .u8 2, .int .u8 57, .int .u8 49, .int .u8 28, .int .u8 3, .int .u8 61, .int .u8 58, .int .u8 42, .int .u8 50, .int .u8 38, .int .u8 29, .int .u8 17, .int .u8 4, .int .u8 62, .int .u8 47, .int .u8 59, .int .u8 36, .int .u8 45, .int .u8 43, .int .u8 51, .int .u8 22, .int .u8 53, .int .u8 39, .int .u8 33, .int .u8 30, .int .u8 24, .int .u8 18, .int .u8 12, .int .u8 5, .int .u8 63, .int .u8 55, .int .u8 48, .int .u8 27, .int .u8 60, .int .u8 41, .int .u8 37, .int .u8 16, .int .u8 46, .int .u8 35, .int .u8 44, .int .u8 21, .int .u8 52, .int .u8 32, .int .u8 23, .int .u8 11, .int .u8 54, .int .u8 26, .int .u8 40, .int .u8 15, .int .u8 34, .int .u8 20, .int .u8 31, .int .u8 10, .int .u8 25, .int .u8 14, .int .u8 19, .int .u8 9, .int .u8 13, .int .u8 8, .int .u8 7, .int .u8 6]
abbrev tabR : List (Nat × List AV) := [(0, shapeCells), (1, bruijn)]
abbrev eqR : List Nat := [134, 142, 206, 274, 371, 57]
abbrev extR : FuncId → List AV → Option AV := fun _ _ => none
def sortedLs_ren : Shelf.Ren := ⟨fun | 6 => 57 | 8 => 116 | 9 => 21 | 11 => 180 | 13 => 45 | 12 => 44 | 23 => 98 | 24 => 99 | 14 => 89 | 15 => 90 | 16 => 91 | 17 => 92 | 18 => 93 | 19 => 94 | 20 => 95 | 21 => 96 | 22 => 97 | 25 => 161 | 26 => 162 | 27 => 163 | 28 => 164 | 29 => 165 | 30 => 160 | 31 => 229 | n => n, fun | 26 => 3 | 28 => 126 | 24 => 28 | 0 => 0 | 3 => 3 | 37 => 95 | 48 => 183 | 50 => 132 | 4 => 4 | 40 => 176 | 39 => 175 | 45 => 180 | 5 => 5 | 9 => 9 | 51 => 245 | 55 => 249 | 57 => 300 | 58 => 301 | 33 => 81 | n => n, fun | n => n⟩
theorem sortedLs : SlLaysZI.n6 Tryz.prog sortedLs_ren := { mixed := by kernel_rfl, f6 := ⟨Tryz.f57.name, by decide, Tryz.func57.trans (congrArg some (by kernel_rfl))⟩, f8 := ⟨Tryz.f116.name, by decide, Tryz.func116.trans (congrArg some (by kernel_rfl))⟩, f11 := ⟨Tryz.f180.name, by decide, Tryz.func180.trans (congrArg some (by kernel_rfl))⟩, t0 := Tryz.underlying0, a0 := Tryz.isAgg0, z0 := Tryz.sizeOf0, v0 := Tryz.zeroValue0, t24 := Tryz.underlying28, a24 := Tryz.isAgg28, z24 := Tryz.sizeOf28, v24 := Tryz.zeroValue28, t26 := Tryz.underlying3, a26 := Tryz.isAgg3, z26 := Tryz.sizeOf3, v26 := Tryz.zeroValue3, t28 := Tryz.underlying126, a28 := Tryz.isAgg126, z28 := Tryz.sizeOf126, v28 := Tryz.zeroValue126, i26 := by kernel_rfl }
def keysLs_ren : Shelf.Ren := ⟨fun | 10 => 117 | n => n, fun | 33 => 81 | 23 => 119 | 0 => 0 | 4 => 4 | 26 => 3 | 3 => 3 | n => n, fun | n => n⟩
theorem keysLs : SlLaysZI.n10 Tryz.prog keysLs_ren := { mixed := by kernel_rfl, f10 := ⟨Tryz.f117.name, by decide, Tryz.func117.trans (congrArg some (by kernel_rfl))⟩, t0 := Tryz.underlying0, a0 := Tryz.isAgg0, z0 := Tryz.sizeOf0, v0 := Tryz.zeroValue0, t4 := Tryz.underlying4, a4 := Tryz.isAgg4, z4 := Tryz.sizeOf4, v4 := Tryz.zeroValue4, t23 := Tryz.underlying119, a23 := Tryz.isAgg119, z23 := Tryz.sizeOf119, v23 := Tryz.zeroValue119, t26 := Tryz.underlying3, a26 := Tryz.isAgg3, z26 := Tryz.sizeOf3, v26 := Tryz.zeroValue3, t33 := Tryz.underlying81, a33 := Tryz.isAgg81, z33 := Tryz.sizeOf81, v33 := Tryz.zeroValue81 }
def sortLs_ren : Shelf.Ren := ⟨fun | 5 => 21 | 8 => 45 | 7 => 44 | 19 => 98 | 20 => 99 | 10 => 89 | 11 => 90 | 12 => 91 | 13 => 92 | 14 => 93 | 15 => 94 | 16 => 95 | 17 => 96 | 18 => 97 | 30 => 161 | 31 => 162 | 32 => 163 | 33 => 164 | 34 => 165 | 35 => 160 | 40 => 229 | n => n, fun | 23 => 28 | 25 => 3 | 3 => 3 | 32 => 95 | 22 => 28 | 0 => 0 | 44 => 183 | 46 => 132 | 4 => 4 | 36 => 176 | 35 => 175 | 41 => 180 | 5 => 5 | 9 => 9 | 53 => 245 | 57 => 249 | 63 => 300 | 64 => 301 | n => n, fun | n => n⟩
theorem sortLs : SlLaysM.n5 Tryz.prog sortLs_ren := { mixed := by kernel_rfl, f5 := ⟨Tryz.f21.name, by decide, Tryz.func21.trans (congrArg some (by kernel_rfl))⟩, f7 := ⟨Tryz.f44.name, by decide, Tryz.func44.trans (congrArg some (by kernel_rfl))⟩, f8 := Tryz.func45.trans (congrArg some (by kernel_rfl)), f10 := ⟨Tryz.f89.name, by decide, Tryz.func89.trans (congrArg some (by kernel_rfl))⟩, f11 := ⟨Tryz.f90.name, by decide, Tryz.func90.trans (congrArg some (by kernel_rfl))⟩, f12 := ⟨Tryz.f91.name, by decide, Tryz.func91.trans (congrArg some (by kernel_rfl))⟩, f13 := ⟨Tryz.f92.name, by decide, Tryz.func92.trans (congrArg some (by kernel_rfl))⟩, f14 := ⟨Tryz.f93.name, by decide, Tryz.func93.trans (congrArg some (by kernel_rfl))⟩, f15 := ⟨Tryz.f94.name, by decide, Tryz.func94.trans (congrArg some (by kernel_rfl))⟩, f16 := ⟨Tryz.f95.name, by decide, Tryz.func95.trans (congrArg some (by kernel_rfl))⟩, f17 := ⟨Tryz.f96.name, by decide, Tryz.func96.trans (congrArg some (by kernel_rfl))⟩, f18 := ⟨Tryz.f97.name, by decide, Tryz.func97.trans (congrArg some (by kernel_rfl))⟩, f19 := Tryz.func98.trans (congrArg some (by kernel_rfl)), f20 := Tryz.func99.trans (congrArg some (by kernel_rfl)), f30 := ⟨Tryz.f161.name, by decide, Tryz.func161.trans (congrArg some (by kernel_rfl))⟩, f31 := Tryz.func162.trans (congrArg some (by kernel_rfl)), f32 := Tryz.func163.trans (congrArg some (by kernel_rfl)), f33 := ⟨Tryz.f164.name, by decide, Tryz.func164.trans (congrArg some (by kernel_rfl))⟩, f34 := ⟨Tryz.f165.name, by decide, Tryz.func165.trans (congrArg some (by kernel_rfl))⟩, f35 := ⟨Tryz.f160.name, by decide, Tryz.func160.trans (congrArg some (by kernel_rfl))⟩, f40 := ⟨Tryz.f229.name, by decide, Tryz.func229.trans (congrArg some (by kernel_rfl))⟩, t0 := Tryz.underlying0, a0 := Tryz.isAgg0, z0 := Tryz.sizeOf0, v0 := Tryz.zeroValue0, t3 := Tryz.underlying3, a3 := Tryz.isAgg3, z3 := Tryz.sizeOf3, v3 := Tryz.zeroValue3, t4 := Tryz.underlying4, a4 := Tryz.isAgg4, z4 := Tryz.sizeOf4, v4 := Tryz.zeroValue4, t5 := Tryz.underlying5, a5 := Tryz.isAgg5, z5 := Tryz.sizeOf5, v5 := Tryz.zeroValue5, t9 := Tryz.underlying9, a9 := Tryz.isAgg9, z9 := Tryz.sizeOf9, v9 := Tryz.zeroValue9, t22 := Tryz.underlying28, a22 := Tryz.isAgg28, z22 := Tryz.sizeOf28, v22 := Tryz.zeroValue28, t23 := Tryz.underlying28, a23 := Tryz.isAgg28, z23 := Tryz.sizeOf28, v23 := Tryz.zeroValue28, t25 := Tryz.underlying3, a25 := Tryz.isAgg3, z25 := Tryz.sizeOf3, v25 := Tryz.zeroValue3, t32 := Tryz.underlying95, a32 := Tryz.isAgg95, z32 := Tryz.sizeOf95, v32 := Tryz.zeroValue95, t35 := Tryz.underlying175, a35 := Tryz.isAgg175, z35 := Tryz.sizeOf175, v35 := Tryz.zeroValue175, t36 := Tryz.underlying176, a36 := Tryz.isAgg176, z36 := Tryz.sizeOf176, v36 := Tryz.zeroValue176, t41 := Tryz.underlying180, a41 := Tryz.isAgg180, z41 := Tryz.sizeOf180, v41 := Tryz.zeroValue180, t44 := Tryz.underlying183, a44 := Tryz.isAgg183, z44 := Tryz.sizeOf183, v44 := Tryz.zeroValue183, t46 := Tryz.underlying132, a46 := Tryz.isAgg132, z46 := Tryz.sizeOf132, v46 := Tryz.zeroValue132, t53 := Tryz.underlying245, a53 := Tryz.isAgg245, z53 := Tryz.sizeOf245, v53 := Tryz.zeroValue245, t57 := Tryz.underlying249, a57 := Tryz.isAgg249, z57 := Tryz.sizeOf249, v57 := Tryz.zeroValue249, t63 := Tryz.underlying300, a63 := Tryz.isAgg300, z63 := Tryz.sizeOf300, v63 := Tryz.zeroValue300, t64 := Tryz.underlying301, a64 := Tryz.isAgg301, z64 := Tryz.sizeOf301, v64 := Tryz.zeroValue301 }
/-- The calls that are not walked. -/
abbrev primR (_T : Tab) : FuncId → List AV → Hp → Option (AV × Hp) := sortedP 57 117 3
abbrev kn (T : Tab) : Knob := knobX eqR T extR (primR T)
theorem primsR {F : Nat → Option Obj} {T : Tab} (_hT : AllPure Tryz.prog F T) : PrimOk Tryz.prog F (primR T) :=
  fun _ _ _ _ _ hp => sortedP_ok sortedLs keysLs sortLs rfl rfl Tryz.underlying3 hp
noncomputable abbrev cx (T : Tab) : Ctx := Ctx.of Tryz.prog (glOf tabR) (kn T)
theorem flatR : flatD (cx []) 4 (((Tryz.prog.globals[0]?).map (·.type)).getD 0) Rows.laid_fescue_shape_table = some shapeCells := by kernel_rfl
theorem flatB : flatD (cx []) 4 (((Tryz.prog.globals[1]?).map (·.type)).getD 0) Rows.laid_math_bits_deBruijn64tab = some bruijn := by kernel_rfl
theorem known {W : World} (h : laidMetH Tryz.prog laidR W) : Known Tryz.prog W tabR := by
  have h' : laidMet Tryz.prog [("math/bits.deBruijn64tab", Rows.laid_math_bits_deBruijn64tab), ("fescue/shape.table", Rows.laid_fescue_shape_table)] W := h
  obtain ⟨ps, ⟨g1, t1, cs1, fuel1, p1, q1, hg1, ht1, hv1, htr1, ⟨g2, t2, cs2, fuel2, p2, q2, hg2, ht2, hv2, htr2, _, _⟩, _⟩, _, _⟩ := h'
  obtain rfl := Option.some.inj (gBruijn.symm.trans hg1)
  obtain rfl := Option.some.inj (gTable.symm.trans hg2)
  intro g l hm
  rcases List.mem_cons.1 hm with hm | hm
  · cases hm
    have hf := flatR
    rw [ht2] at hf
    simp only [World.var?, gTable, Option.bind_some] at hv2
    split at hv2
    case h_2 => cases hv2
    rename_i arr e fz hw
    cases hv2
    exact ⟨_, _, _, hw, fun m => flatD_rel 4 _ _ _ fuel2 _ p2 hf htr2⟩
  · cases List.mem_singleton.1 hm
    have hf := flatB
    rw [ht1] at hf
    simp only [World.var?, gBruijn, Option.bind_some] at hv1
    split at hv1
    case h_2 => cases hv1
    rename_i arr e fz hw
    cases hv1
    exact ⟨_, _, _, hw, fun m => flatD_rel 4 _ _ _ fuel1 _ p1 hf htr1⟩
theorem eqsR : (eqR.all (eqCheck Tryz.prog)) = true := by kernel_rfl
theorem namesR : (Tryz.prog.funcs.all fun fn => !(fn.body.isSome && fn.name == "runtime.NumGoroutine")) = true := by kernel_rfl
theorem mixedR : Tryz.prog.follows .mixedOrders = true := by kernel_rfl
theorem extsR {F : Nat → Option Obj} : ExtOk Tryz.prog F extR :=
  fun _ _ _ h => by cases h
/-- The conditions of the abstract machine. -/
theorem pok {W : World} (h : laidMetH Tryz.prog laidR W) {T : Tab} (hT : AllPure Tryz.prog (Go.Ax.frozen W) T) : POk Tryz.prog (Go.Ax.frozen W) (glOf tabR) (kn T) := pok_ofX (known h) eqsR namesR mixedR hT extsR (primsR hT)
end Go.Proofs.YtifgafdcadffiaaGreatDoor
