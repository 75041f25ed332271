/- PromoteNames, part 0: the listed variables, the knobs and the conditions of the abstract machine. -/
import Derived.Test.YtodpcmfblpmheaaGreatDoorRows
import Derived.Test.YtodpcmfblpmheaaGreatDoorTie
import Derived.Test.YtodpcmfblpmheaaGreatDoorCards
import Derived.Test.YtodpcmfblpmheaaGreatDoorChecked
import Derived.Test.YtodpcmfblpmheaaGreatDoorMn
import Derived.ProofKit
import Derived.LaidMore
import Derived.LaidHandle
import Derived.OpenShut
import Derived.Stop.Joined
import Derived.SevenTiedAt
namespace Go.Proofs.YtodpcmfblpmheaaGreatDoor
open Go.ChangeShapes Go.WideShapes Go.ChangeAt Go.WideMaps Go.WideElems Go.RowKit Go.Ax
abbrev laidR : List (String × DataW Unit) := [("math/bits.deBruijn64tab", Rows.laid_math_bits_deBruijn64tab), ("fescue/shape.table", Rows.laid_fescue_shape_table)]
theorem own : ownKnob Tryz.prog.godebug = none := by kernel_rfl
theorem gTable : Tryz.prog.globalNamed "fescue/shape.table" = some 0 := by kernel_rfl
theorem gBruijn : Tryz.prog.globalNamed "math/bits.deBruijn64tab" = some 1 := by kernel_rfl
theorem door_met (os : Os) (args : Array Value) : laidMetH Tryz.prog laidR ((World.doorLaid Tryz.prog 403 os).forCall (fun _ _ => 0) ⟨#[], args, []⟩).memory :=
  laidMetH_of_parts3 (fuel := 8) (laidMet_of_run' 8 (by kernel_rfl) (by kernel_rfl)) (by kernel_rfl) (by kernel_rfl)
def shapeCells : List AV := [.bool false, .bool false, .bool false, .bool false, .bool false, .bool false, .bool false, .bool false, .bool true, .bool false, .bool false, .bool true, .bool false, .bool false, .bool false, .bool false, .bool false, .bool true, .bool false, .bool false, .bool true, .bool false, .bool false, .bool true, .bool true, .bool true, .bool false, .bool false, .bool false, .bool true, .bool true, .bool true, .bool false, .bool false, .bool false, .bool true, .bool true, .bool true, .bool false, .bool false, .bool false, .bool true, .bool true, .bool true, .bool false, .bool false, .bool false, .bool true, .bool true, .bool true, .bool false, .bool false, .bool false, .bool true, .bool true, .bool true, .bool false, .bool false, .bool false, .bool true, .bool true, .bool true, .bool false, .bool false, .bool false, .bool true, .bool false, .bool false, .bool false, .bool false, .bool false, .bool true, .bool false, .bool false, .bool false, .bool false, .bool false, .bool true, .bool true, .bool false, .bool false, .bool false, .bool false, .bool false, .bool true, .bool false, .bool true, .bool false, .bool false, .bool true, .bool true, .bool true, .bool false, .bool false, .bool false, .bool true, .bool true, .bool false, .bool false, .bool false, .bool false, .bool true, .bool true, .bool true, .bool false, .bool false, .bool false, .bool false, .bool false, .bool false, .bool true, .bool true, .bool false, .bool true, .bool true, .bool false, .bool false, .bool true, .bool false, .bool true, .bool false, .bool false, .bool false, .bool false, .bool false, .bool true, .bool true, .bool false, .bool false, .bool false, .bool false, .bool false, .bool false, .bool false, .bool false, .bool true, .bool true, .bool true]
def bruijn : List AV := [.int .u8 0, .int .u8 1, .int .u8 56, .int .u8 2, .int .u8 57, .int .u8 49, .int .u8 28, .int .u8 3, .int .u8 61, .int .u8 58, .int .u8 42, .int .u8 50, .int .u8 38, .int .u8 29, .int .u8 17, .int .u8 4, .int .u8 62, .int .u8 47, .int .u8 59, .int .u8 36, .int .u8 45, .int .u8 43, .int .u8 51, .int .u8 22, .int .u8 53, .int .u8 39, .int .u8 33, .int .u8 30, .int .u8 24, .int .u8 18, .int .u8 12, .int .u8 5, .int .u8 63, .int .u8 55, .int .u8 48, .int .u8 27, .int .u8 60, .int .u8 41, .int .u8 37, .int .u8 16, .int .u8 46, .int .u8 35, .int .u8 44, .int .u8 21, .int .u8 52, .int .u8 32, .int .u8 23, .int .u8 11, .int .u8 54, .int .u8 26, .int .u8 40, .int .u8 15, .int .u8 34, .int .u8 20, .int .u8 31, .int .u8 10, .int .u8 25, .int .u8 14, .int .u8 19, .int .u8 9, .int .u8 13, .int .u8 8, .int .u8 7, .int .u8 6]
abbrev tabR : List (Nat × List AV) := [(0, shapeCells), (1, bruijn)]
abbrev eqR : List Nat := [73, 147, 247, 272, 386]
abbrev extR : FuncId → List AV → Option AV := extF 347 246
def sortedLs_ren : Shelf.Ren := ⟨fun | 6 => 56 | 8 => 137 | 9 => 138 | 11 => 225 | 13 => 227 | 12 => 226 | 23 => 300 | 24 => 301 | 14 => 291 | 15 => 292 | 16 => 293 | 17 => 294 | 18 => 295 | 19 => 296 | 20 => 297 | 21 => 298 | 22 => 299 | 25 => 322 | 26 => 323 | 27 => 324 | 28 => 325 | 29 => 326 | 30 => 327 | 31 => 343 | n => n, fun | 26 => 3 | 28 => 139 | 24 => 23 | 0 => 0 | 3 => 3 | 37 => 292 | 48 => 367 | 50 => 145 | 4 => 4 | 40 => 396 | 39 => 395 | 45 => 209 | 5 => 5 | 9 => 9 | 51 => 419 | 55 => 423 | 57 => 434 | 58 => 435 | 33 => 93 | n => n, fun | n => n⟩
theorem sortedLs : SlLaysZI.n6 Tryz.prog sortedLs_ren := { mixed := by kernel_rfl, f6 := ⟨Tryz.f56.name, by decide, Tryz.func56.trans (congrArg some (by kernel_rfl))⟩, f8 := ⟨Tryz.f137.name, by decide, Tryz.func137.trans (congrArg some (by kernel_rfl))⟩, f11 := ⟨Tryz.f225.name, by decide, Tryz.func225.trans (congrArg some (by kernel_rfl))⟩, t0 := Tryz.underlying0, a0 := Tryz.isAgg0, z0 := Tryz.sizeOf0, v0 := Tryz.zeroValue0, t24 := Tryz.underlying23, a24 := Tryz.isAgg23, z24 := Tryz.sizeOf23, v24 := Tryz.zeroValue23, t26 := Tryz.underlying3, a26 := Tryz.isAgg3, z26 := Tryz.sizeOf3, v26 := Tryz.zeroValue3, t28 := Tryz.underlying139, a28 := Tryz.isAgg139, z28 := Tryz.sizeOf139, v28 := Tryz.zeroValue139, i26 := by kernel_rfl }
def keysLs_ren : Shelf.Ren := ⟨fun | 10 => 139 | n => n, fun | 33 => 93 | 23 => 132 | 0 => 0 | 4 => 4 | 26 => 3 | 3 => 3 | n => n, fun | n => n⟩
theorem keysLs : SlLaysZI.n10 Tryz.prog keysLs_ren := { mixed := by kernel_rfl, f10 := ⟨Tryz.f139.name, by decide, Tryz.func139.trans (congrArg some (by kernel_rfl))⟩, t0 := Tryz.underlying0, a0 := Tryz.isAgg0, z0 := Tryz.sizeOf0, v0 := Tryz.zeroValue0, t4 := Tryz.underlying4, a4 := Tryz.isAgg4, z4 := Tryz.sizeOf4, v4 := Tryz.zeroValue4, t23 := Tryz.underlying132, a23 := Tryz.isAgg132, z23 := Tryz.sizeOf132, v23 := Tryz.zeroValue132, t26 := Tryz.underlying3, a26 := Tryz.isAgg3, z26 := Tryz.sizeOf3, v26 := Tryz.zeroValue3, t33 := Tryz.underlying93, a33 := Tryz.isAgg93, z33 := Tryz.sizeOf93, v33 := Tryz.zeroValue93 }
def sortLs_ren : Shelf.Ren := ⟨fun | 5 => 138 | 8 => 227 | 7 => 226 | 19 => 300 | 20 => 301 | 10 => 291 | 11 => 292 | 12 => 293 | 13 => 294 | 14 => 295 | 15 => 296 | 16 => 297 | 17 => 298 | 18 => 299 | 30 => 322 | 31 => 323 | 32 => 324 | 33 => 325 | 34 => 326 | 35 => 327 | 40 => 343 | n => n, fun | 23 => 23 | 25 => 3 | 3 => 3 | 32 => 292 | 22 => 23 | 0 => 0 | 44 => 367 | 46 => 145 | 4 => 4 | 36 => 396 | 35 => 395 | 41 => 209 | 5 => 5 | 9 => 9 | 53 => 419 | 57 => 423 | 63 => 434 | 64 => 435 | n => n, fun | n => n⟩
theorem sortLs : SlLaysM.n5 Tryz.prog sortLs_ren := { mixed := by kernel_rfl, f5 := ⟨Tryz.f138.name, by decide, Tryz.func138.trans (congrArg some (by kernel_rfl))⟩, f7 := ⟨Tryz.f226.name, by decide, Tryz.func226.trans (congrArg some (by kernel_rfl))⟩, f8 := Tryz.func227.trans (congrArg some (by kernel_rfl)), f10 := ⟨Tryz.f291.name, by decide, Tryz.func291.trans (congrArg some (by kernel_rfl))⟩, f11 := ⟨Tryz.f292.name, by decide, Tryz.func292.trans (congrArg some (by kernel_rfl))⟩, f12 := ⟨Tryz.f293.name, by decide, Tryz.func293.trans (congrArg some (by kernel_rfl))⟩, f13 := ⟨Tryz.f294.name, by decide, Tryz.func294.trans (congrArg some (by kernel_rfl))⟩, f14 := ⟨Tryz.f295.name, by decide, Tryz.func295.trans (congrArg some (by kernel_rfl))⟩, f15 := ⟨Tryz.f296.name, by decide, Tryz.func296.trans (congrArg some (by kernel_rfl))⟩, f16 := ⟨Tryz.f297.name, by decide, Tryz.func297.trans (congrArg some (by kernel_rfl))⟩, f17 := ⟨Tryz.f298.name, by decide, Tryz.func298.trans (congrArg some (by kernel_rfl))⟩, f18 := ⟨Tryz.f299.name, by decide, Tryz.func299.trans (congrArg some (by kernel_rfl))⟩, f19 := Tryz.func300.trans (congrArg some (by kernel_rfl)), f20 := Tryz.func301.trans (congrArg some (by kernel_rfl)), f30 := ⟨Tryz.f322.name, by decide, Tryz.func322.trans (congrArg some (by kernel_rfl))⟩, f31 := Tryz.func323.trans (congrArg some (by kernel_rfl)), f32 := Tryz.func324.trans (congrArg some (by kernel_rfl)), f33 := ⟨Tryz.f325.name, by decide, Tryz.func325.trans (congrArg some (by kernel_rfl))⟩, f34 := ⟨Tryz.f326.name, by decide, Tryz.func326.trans (congrArg some (by kernel_rfl))⟩, f35 := ⟨Tryz.f327.name, by decide, Tryz.func327.trans (congrArg some (by kernel_rfl))⟩, f40 := ⟨Tryz.f343.name, by decide, Tryz.func343.trans (congrArg some (by kernel_rfl))⟩, t0 := Tryz.underlying0, a0 := Tryz.isAgg0, z0 := Tryz.sizeOf0, v0 := Tryz.zeroValue0, t3 := Tryz.underlying3, a3 := Tryz.isAgg3, z3 := Tryz.sizeOf3, v3 := Tryz.zeroValue3, t4 := Tryz.underlying4, a4 := Tryz.isAgg4, z4 := Tryz.sizeOf4, v4 := Tryz.zeroValue4, t5 := Tryz.underlying5, a5 := Tryz.isAgg5, z5 := Tryz.sizeOf5, v5 := Tryz.zeroValue5, t9 := Tryz.underlying9, a9 := Tryz.isAgg9, z9 := Tryz.sizeOf9, v9 := Tryz.zeroValue9, t22 := Tryz.underlying23, a22 := Tryz.isAgg23, z22 := Tryz.sizeOf23, v22 := Tryz.zeroValue23, t23 := Tryz.underlying23, a23 := Tryz.isAgg23, z23 := Tryz.sizeOf23, v23 := Tryz.zeroValue23, t25 := Tryz.underlying3, a25 := Tryz.isAgg3, z25 := Tryz.sizeOf3, v25 := Tryz.zeroValue3, t32 := Tryz.underlying292, a32 := Tryz.isAgg292, z32 := Tryz.sizeOf292, v32 := Tryz.zeroValue292, t35 := Tryz.underlying395, a35 := Tryz.isAgg395, z35 := Tryz.sizeOf395, v35 := Tryz.zeroValue395, t36 := Tryz.underlying396, a36 := Tryz.isAgg396, z36 := Tryz.sizeOf396, v36 := Tryz.zeroValue396, t41 := Tryz.underlying209, a41 := Tryz.isAgg209, z41 := Tryz.sizeOf209, v41 := Tryz.zeroValue209, t44 := Tryz.underlying367, a44 := Tryz.isAgg367, z44 := Tryz.sizeOf367, v44 := Tryz.zeroValue367, t46 := Tryz.underlying145, a46 := Tryz.isAgg145, z46 := Tryz.sizeOf145, v46 := Tryz.zeroValue145, t53 := Tryz.underlying419, a53 := Tryz.isAgg419, z53 := Tryz.sizeOf419, v53 := Tryz.zeroValue419, t57 := Tryz.underlying423, a57 := Tryz.isAgg423, z57 := Tryz.sizeOf423, v57 := Tryz.zeroValue423, t63 := Tryz.underlying434, a63 := Tryz.isAgg434, z63 := Tryz.sizeOf434, v63 := Tryz.zeroValue434, t64 := Tryz.underlying435, a64 := Tryz.isAgg435, z64 := Tryz.sizeOf435, v64 := Tryz.zeroValue435 }
/-- The calls that are not walked. -/
abbrev primR (T : Tab) : FuncId → List AV → Hp → Option (AV × Hp) := primOr (frzP [234] T) (sortedP 56 139 3)
abbrev kn (T : Tab) : Knob := knobX eqR T extR (primR T)
theorem primsR {F : Nat → Option Obj} {T : Tab} (hT : AllPure Tryz.prog F T) : PrimOk Tryz.prog F (primR T) :=
  primOr_ok (frzP_ok hT) fun _ _ _ _ _ hp => sortedP_ok sortedLs keysLs sortLs rfl rfl Tryz.underlying3 hp
noncomputable abbrev cx (T : Tab) : Ctx := Ctx.of Tryz.prog (glOf tabR) (kn T)
theorem flatR : flatD (cx []) 4 (((Tryz.prog.globals[0]?).map (·.type)).getD 0) Rows.laid_fescue_shape_table = some shapeCells := by kernel_rfl
theorem flatB : flatD (cx []) 4 (((Tryz.prog.globals[1]?).map (·.type)).getD 0) Rows.laid_math_bits_deBruijn64tab = some bruijn := by kernel_rfl
theorem known {W : World} (h : laidMetH Tryz.prog laidR W) : Known Tryz.prog W tabR := by
  have h' : laidMet Tryz.prog [("math/bits.deBruijn64tab", Rows.laid_math_bits_deBruijn64tab), ("fescue/shape.table", Rows.laid_fescue_shape_table)] W := h
  obtain ⟨ps, ⟨g1, t1, cs1, fuel1, p1, q1, hg1, ht1, hv1, htr1, ⟨g2, t2, cs2, fuel2, p2, q2, hg2, ht2, hv2, htr2, _, _⟩, _⟩, _, _⟩ := h'
  obtain rfl := Option.some.inj (gBruijn.symm.trans hg1)
  obtain rfl := Option.some.inj (gTable.symm.trans hg2)
  intro g l hm
  rcases List.mem_cons.1 hm with hm | hm
  · cases hm
    have hf := flatR
    rw [ht2] at hf
    simp only [World.var?, gTable, Option.bind_some] at hv2
    split at hv2
    case h_2 => cases hv2
    rename_i arr e fz hw
    cases hv2
    exact ⟨_, _, _, hw, fun m => flatD_rel 4 _ _ _ fuel2 _ p2 hf htr2⟩
  · cases List.mem_singleton.1 hm
    have hf := flatB
    rw [ht1] at hf
    simp only [World.var?, gBruijn, Option.bind_some] at hv1
    split at hv1
    case h_2 => cases hv1
    rename_i arr e fz hw
    cases hv1
    exact ⟨_, _, _, hw, fun m => flatD_rel 4 _ _ _ fuel1 _ p1 hf htr1⟩
theorem eqsR : (eqR.all (eqCheck Tryz.prog)) = true := by kernel_rfl
theorem namesR : (Tryz.prog.funcs.all fun fn => !(fn.body.isSome && fn.name == "runtime.NumGoroutine")) = true := by kernel_rfl
theorem mixedR : Tryz.prog.follows .mixedOrders = true := by kernel_rfl
theorem extsR {F : Nat → Option Obj} : ExtOk Tryz.prog F extR :=
  extOk_of (show Tryz.prog.funcs[347]? = some Tryz.f347 by kernel_rfl) (by kernel_rfl) (by kernel_rfl) (by kernel_rfl) (by kernel_rfl) (show Tryz.prog.funcs[246]? = some Tryz.f246 by kernel_rfl) (by kernel_rfl) (by kernel_rfl) (by kernel_rfl) (by kernel_rfl)
/-- The conditions of the abstract machine. -/
theorem pok {W : World} (h : laidMetH Tryz.prog laidR W) {T : Tab} (hT : AllPure Tryz.prog (Go.Ax.frozen W) T) : POk Tryz.prog (Go.Ax.frozen W) (glOf tabR) (kn T) := pok_ofX (known h) eqsR namesR mixedR hT extsR (primsR hT)
end Go.Proofs.YtodpcmfblpmheaaGreatDoor
