/- ReloadNames, part 0: the listed variables, the knobs and the conditions of the abstract machine. -/
import Derived.Test.YtmmjfmbpilfehaaGreatDoorRows
import Derived.Test.YtmmjfmbpilfehaaGreatDoorTie
import Derived.Test.YtmmjfmbpilfehaaGreatDoorCards
import Derived.Test.YtmmjfmbpilfehaaGreatDoorChecked
import Derived.Test.YtmmjfmbpilfehaaGreatDoorMn
import Derived.ProofKit
import Derived.LaidMore
import Derived.LaidHandle
import Derived.OpenShut
import Derived.Stop.Joined
import Derived.SevenTiedAt
namespace Go.Proofs.YtmmjfmbpilfehaaGreatDoor
open Go.ChangeShapes Go.WideShapes Go.ChangeAt Go.WideMaps Go.WideElems Go.RowKit Go.Ax
abbrev laidR : List (String × DataW Unit) := [("math/bits.deBruijn64tab", Rows.laid_math_bits_deBruijn64tab), ("fescue/shape.table", Rows.laid_fescue_shape_table)]
theorem own : ownKnob Tryz.prog.godebug = none := by kernel_rfl
theorem gTable : Tryz.prog.globalNamed "fescue/shape.table" = some 0 := by kernel_rfl
theorem gBruijn : Tryz.prog.globalNamed "math/bits.deBruijn64tab" = some 1 := by kernel_rfl
theorem door_met (os : Os) (args : Array Value) : laidMetH Tryz.prog laidR ((World.doorLaid Tryz.prog 366 os).forCall (fun _ _ => 0) ⟨#[], args, []⟩).memory :=
  laidMetH_of_parts3 (fuel := 8) (laidMet_of_run' 8 (by kernel_rfl) (by kernel_rfl)) (by kernel_rfl) (by kernel_rfl)
def shapeCells : List AV := [.bool false, .bool false, .bool false, .bool false, .bool false, .bool false, .bool false, .bool false, .bool true, .bool false, .bool false, .bool true, .bool false, .bool false, .bool false, .bool false, .bool false, .bool true, .bool false, .bool false, .bool true, .bool false, .bool false, .bool true, .bool true, .bool true, .bool false, .bool false, .bool false, .bool true, .bool true, .bool true, .bool false, .bool false, .bool false, .bool true, .bool true, .bool true, .bool false, .bool false, .bool false, .bool true, .bool true, .bool true, .bool false, .bool false, .bool false, .bool true, .bool true, .bool true, .bool false, .bool false, .bool false, .bool true, .bool true, .bool true, .bool false, .bool false, .bool false, .bool true, .bool true, .bool true, .bool false, .bool false, .bool false, .bool true, .bool false, .bool false, .bool false, .bool false, .bool false, .bool true, .bool false, .bool false, .bool false, .bool false, .bool false, .bool true, .bool true, .bool false, .bool false, .bool false, .bool false, .bool false, .bool true, .bool false, .bool true, .bool false, .bool false, .bool true, .bool true, .bool true, .bool false, .bool false, .bool false, .bool true, .bool true, .bool false, .bool false, .bool false, .bool false, .bool true, .bool true, .bool true, .bool false, .bool false, .bool false, .bool false, .bool false, .bool false, .bool true, .bool true, .bool false, .bool true, .bool true, .bool false, .bool false, .bool true, .bool false, .bool true, .bool false, .bool false, .bool false, .bool false, .bool false, .bool true, .bool true, .bool false, .bool false, .bool false, .bool false, .bool false, .bool false, .bool false, .bool false, .bool true, .bool true, .bool true]
def bruijn : List AV := [.int .u8 0, .int .u8 1, .int .u8 56, .int .u8 2, .int .u8 57, .int .u8 49, .int .u8 28, .int .u8 3, .int .u8 61, .int .u8 58, .int .u8 42, .int .u8 50, .int .u8 38, .int .u8 29, .int .u8 17, .int .u8 4, .int .u8 62, .int .u8 47, .int .u8 59, .int .u8 36, .int .u8 45, .int .u8 43, .int .u8 51, .int .u8 22, .int .u8 53, .int .u8 39, .int .u8 33, .int .u8 30, .int .u8 24, .int .u8 18, .int .u8 12, .int .u8 5, .int .u8 63, .int .u8 55, .int .u8 48, .int .u8 27, .int .u8 60, .int .u8 41, .int .u8 37, .int .u8 16, .int .u8 46, .int .u8 35, .int .u8 44, .int .u8 21, .int .u8 52, .int .u8 32, .int .u8 23, .int .u8 11, .int .u8 54, .int .u8 26, .int .u8 40, .int .u8 15, .int .u8 34, .int .u8 20, .int .u8 31, .int .u8 10, .int .u8 25, .int .u8 14, .int .u8 19, .int .u8 9, .int .u8 13, .int .u8 8, .int .u8 7, .int .u8 6]
abbrev tabR : List (Nat × List AV) := [(0, shapeCells), (1, bruijn)]
abbrev eqR : List Nat := [61, 171, 219, 244, 313]
abbrev extR : FuncId → List AV → Option AV := extF 309 244
def sortedLs_ren : Shelf.Ren := ⟨fun | 6 => 62 | 8 => 111 | 9 => 112 | 11 => 177 | 13 => 179 | 12 => 178 | 23 => 238 | 24 => 239 | 14 => 229 | 15 => 230 | 16 => 231 | 17 => 232 | 18 => 233 | 19 => 234 | 20 => 235 | 21 => 236 | 22 => 237 | 25 => 269 | 26 => 270 | 27 => 271 | 28 => 272 | 29 => 273 | 30 => 274 | 31 => 301 | n => n, fun | 26 => 3 | 28 => 123 | 24 => 56 | 0 => 0 | 3 => 3 | 37 => 285 | 48 => 333 | 50 => 169 | 4 => 4 | 40 => 327 | 39 => 326 | 45 => 67 | 5 => 5 | 9 => 9 | 51 => 363 | 55 => 367 | 57 => 388 | 58 => 389 | 33 => 99 | n => n, fun | n => n⟩
theorem sortedLs : SlLaysZI.n6 Tryz.prog sortedLs_ren := { mixed := by kernel_rfl, f6 := ⟨Tryz.f62.name, by decide, Tryz.func62.trans (congrArg some (by kernel_rfl))⟩, f8 := ⟨Tryz.f111.name, by decide, Tryz.func111.trans (congrArg some (by kernel_rfl))⟩, f11 := ⟨Tryz.f177.name, by decide, Tryz.func177.trans (congrArg some (by kernel_rfl))⟩, t0 := Tryz.underlying0, a0 := Tryz.isAgg0, z0 := Tryz.sizeOf0, v0 := Tryz.zeroValue0, t24 := Tryz.underlying56, a24 := Tryz.isAgg56, z24 := Tryz.sizeOf56, v24 := Tryz.zeroValue56, t26 := Tryz.underlying3, a26 := Tryz.isAgg3, z26 := Tryz.sizeOf3, v26 := Tryz.zeroValue3, t28 := Tryz.underlying123, a28 := Tryz.isAgg123, z28 := Tryz.sizeOf123, v28 := Tryz.zeroValue123, i26 := by kernel_rfl }
def keysLs_ren : Shelf.Ren := ⟨fun | 10 => 153 | n => n, fun | 33 => 99 | 23 => 159 | 0 => 0 | 4 => 4 | 26 => 3 | 3 => 3 | n => n, fun | n => n⟩
theorem keysLs : SlLaysZI.n10 Tryz.prog keysLs_ren := { mixed := by kernel_rfl, f10 := ⟨Tryz.f153.name, by decide, Tryz.func153.trans (congrArg some (by kernel_rfl))⟩, t0 := Tryz.underlying0, a0 := Tryz.isAgg0, z0 := Tryz.sizeOf0, v0 := Tryz.zeroValue0, t4 := Tryz.underlying4, a4 := Tryz.isAgg4, z4 := Tryz.sizeOf4, v4 := Tryz.zeroValue4, t23 := Tryz.underlying159, a23 := Tryz.isAgg159, z23 := Tryz.sizeOf159, v23 := Tryz.zeroValue159, t26 := Tryz.underlying3, a26 := Tryz.isAgg3, z26 := Tryz.sizeOf3, v26 := Tryz.zeroValue3, t33 := Tryz.underlying99, a33 := Tryz.isAgg99, z33 := Tryz.sizeOf99, v33 := Tryz.zeroValue99 }
def sortLs_ren : Shelf.Ren := ⟨fun | 5 => 112 | 8 => 179 | 7 => 178 | 19 => 238 | 20 => 239 | 10 => 229 | 11 => 230 | 12 => 231 | 13 => 232 | 14 => 233 | 15 => 234 | 16 => 235 | 17 => 236 | 18 => 237 | 30 => 269 | 31 => 270 | 32 => 271 | 33 => 272 | 34 => 273 | 35 => 274 | 40 => 301 | n => n, fun | 23 => 56 | 25 => 3 | 3 => 3 | 32 => 285 | 22 => 56 | 0 => 0 | 44 => 333 | 46 => 169 | 4 => 4 | 36 => 327 | 35 => 326 | 41 => 67 | 5 => 5 | 9 => 9 | 53 => 363 | 57 => 367 | 63 => 388 | 64 => 389 | n => n, fun | n => n⟩
theorem sortLs : SlLaysM.n5 Tryz.prog sortLs_ren := { mixed := by kernel_rfl, f5 := ⟨Tryz.f112.name, by decide, Tryz.func112.trans (congrArg some (by kernel_rfl))⟩, f7 := ⟨Tryz.f178.name, by decide, Tryz.func178.trans (congrArg some (by kernel_rfl))⟩, f8 := Tryz.func179.trans (congrArg some (by kernel_rfl)), f10 := ⟨Tryz.f229.name, by decide, Tryz.func229.trans (congrArg some (by kernel_rfl))⟩, f11 := ⟨Tryz.f230.name, by decide, Tryz.func230.trans (congrArg some (by kernel_rfl))⟩, f12 := ⟨Tryz.f231.name, by decide, Tryz.func231.trans (congrArg some (by kernel_rfl))⟩, f13 := ⟨Tryz.f232.name, by decide, Tryz.func232.trans (congrArg some (by kernel_rfl))⟩, f14 := ⟨Tryz.f233.name, by decide, Tryz.func233.trans (congrArg some (by kernel_rfl))⟩, f15 := ⟨Tryz.f234.name, by decide, Tryz.func234.trans (congrArg some (by kernel_rfl))⟩, f16 := ⟨Tryz.f235.name, by decide, Tryz.func235.trans (congrArg some (by kernel_rfl))⟩, f17 := ⟨Tryz.f236.name, by decide, Tryz.func236.trans (congrArg some (by kernel_rfl))⟩, f18 := ⟨Tryz.f237.name, by decide, Tryz.func237.trans (congrArg some (by kernel_rfl))⟩, f19 := Tryz.func238.trans (congrArg some (by kernel_rfl)), f20 := Tryz.func239.trans (congrArg some (by kernel_rfl)), f30 := ⟨Tryz.f269.name, by decide, Tryz.func269.trans (congrArg some (by kernel_rfl))⟩, f31 := Tryz.func270.trans (congrArg some (by kernel_rfl)), f32 := Tryz.func271.trans (congrArg some (by kernel_rfl)), f33 := ⟨Tryz.f272.name, by decide, Tryz.func272.trans (congrArg some (by kernel_rfl))⟩, f34 := ⟨Tryz.f273.name, by decide, Tryz.func273.trans (congrArg some (by kernel_rfl))⟩, f35 := ⟨Tryz.f274.name, by decide, Tryz.func274.trans (congrArg some (by kernel_rfl))⟩, f40 := ⟨Tryz.f301.name, by decide, Tryz.func301.trans (congrArg some (by kernel_rfl))⟩, t0 := Tryz.underlying0, a0 := Tryz.isAgg0, z0 := Tryz.sizeOf0, v0 := Tryz.zeroValue0, t3 := Tryz.underlying3, a3 := Tryz.isAgg3, z3 := Tryz.sizeOf3, v3 := Tryz.zeroValue3, t4 := Tryz.underlying4, a4 := Tryz.isAgg4, z4 := Tryz.sizeOf4, v4 := Tryz.zeroValue4, t5 := Tryz.underlying5, a5 := Tryz.isAgg5, z5 := Tryz.sizeOf5, v5 := Tryz.zeroValue5, t9 := Tryz.underlying9, a9 := Tryz.isAgg9, z9 := Tryz.sizeOf9, v9 := Tryz.zeroValue9, t22 := Tryz.underlying56, a22 := Tryz.isAgg56, z22 := Tryz.sizeOf56, v22 := Tryz.zeroValue56, t23 := Tryz.underlying56, a23 := Tryz.isAgg56, z23 := Tryz.sizeOf56, v23 := Tryz.zeroValue56, t25 := Tryz.underlying3, a25 := Tryz.isAgg3, z25 := Tryz.sizeOf3, v25 := Tryz.zeroValue3, t32 := Tryz.underlying285, a32 := Tryz.isAgg285, z32 := Tryz.sizeOf285, v32 := Tryz.zeroValue285, t35 := Tryz.underlying326, a35 := Tryz.isAgg326, z35 := Tryz.sizeOf326, v35 := Tryz.zeroValue326, t36 := Tryz.underlying327, a36 := Tryz.isAgg327, z36 := Tryz.sizeOf327, v36 := Tryz.zeroValue327, t41 := Tryz.underlying67, a41 := Tryz.isAgg67, z41 := Tryz.sizeOf67, v41 := Tryz.zeroValue67, t44 := Tryz.underlying333, a44 := Tryz.isAgg333, z44 := Tryz.sizeOf333, v44 := Tryz.zeroValue333, t46 := Tryz.underlying169, a46 := Tryz.isAgg169, z46 := Tryz.sizeOf169, v46 := Tryz.zeroValue169, t53 := Tryz.underlying363, a53 := Tryz.isAgg363, z53 := Tryz.sizeOf363, v53 := Tryz.zeroValue363, t57 := Tryz.underlying367, a57 := Tryz.isAgg367, z57 := Tryz.sizeOf367, v57 := Tryz.zeroValue367, t63 := Tryz.underlying388, a63 := Tryz.isAgg388, z63 := Tryz.sizeOf388, v63 := Tryz.zeroValue388, t64 := Tryz.underlying389, a64 := Tryz.isAgg389, z64 := Tryz.sizeOf389, v64 := Tryz.zeroValue389 }
/-- The calls that are not walked. -/
abbrev primR (T : Tab) : FuncId → List AV → Hp → Option (AV × Hp) := primOr (frzP [211, 23] T) (sortedP 62 153 3)
abbrev kn (T : Tab) : Knob := knobX eqR T extR (primR T)
theorem primsR {F : Nat → Option Obj} {T : Tab} (hT : AllPure Tryz.prog F T) : PrimOk Tryz.prog F (primR T) :=
  primOr_ok (frzP_ok hT) fun _ _ _ _ _ hp => sortedP_ok sortedLs keysLs sortLs rfl rfl Tryz.underlying3 hp
noncomputable abbrev cx (T : Tab) : Ctx := Ctx.of Tryz.prog (glOf tabR) (kn T)
theorem flatR : flatD (cx []) 4 (((Tryz.prog.globals[0]?).map (·.type)).getD 0) Rows.laid_fescue_shape_table = some shapeCells := by kernel_rfl
theorem flatB : flatD (cx []) 4 (((Tryz.prog.globals[1]?).map (·.type)).getD 0) Rows.laid_math_bits_deBruijn64tab = some bruijn := by kernel_rfl
theorem known {W : World} (h : laidMetH Tryz.prog laidR W) : Known Tryz.prog W tabR := by
  have h' : laidMet Tryz.prog [("math/bits.deBruijn64tab", Rows.laid_math_bits_deBruijn64tab), ("fescue/shape.table", Rows.laid_fescue_shape_table)] W := h
  obtain ⟨ps, ⟨g1, t1, cs1, fuel1, p1, q1, hg1, ht1, hv1, htr1, ⟨g2, t2, cs2, fuel2, p2, q2, hg2, ht2, hv2, htr2, _, _⟩, _⟩, _, _⟩ := h'
  obtain rfl := Option.some.inj (gBruijn.symm.trans hg1)
  obtain rfl := Option.some.inj (gTable.symm.trans hg2)
  intro g l hm
  rcases List.mem_cons.1 hm with hm | hm
  · cases hm
    have hf := flatR
    rw [ht2] at hf
    simp only [World.var?, gTable, Option.bind_some] at hv2
    split at hv2
    case h_2 => cases hv2
    rename_i arr e fz hw
    cases hv2
    exact ⟨_, _, _, hw, fun m => flatD_rel 4 _ _ _ fuel2 _ p2 hf htr2⟩
  · cases List.mem_singleton.1 hm
    have hf := flatB
    rw [ht1] at hf
    simp only [World.var?, gBruijn, Option.bind_some] at hv1
    split at hv1
    case h_2 => cases hv1
    rename_i arr e fz hw
    cases hv1
    exact ⟨_, _, _, hw, fun m => flatD_rel 4 _ _ _ fuel1 _ p1 hf htr1⟩
theorem eqsR : (eqR.all (eqCheck Tryz.prog)) = true := by kernel_rfl
theorem namesR : (Tryz.prog.funcs.all fun fn => !(fn.body.isSome && fn.name == "runtime.NumGoroutine")) = true := by kernel_rfl
theorem mixedR : Tryz.prog.follows .mixedOrders = true := by kernel_rfl
theorem extsR {F : Nat → Option Obj} : ExtOk Tryz.prog F extR :=
  extOk_of (show Tryz.prog.funcs[309]? = some Tryz.f309 by kernel_rfl) (by kernel_rfl) (by kernel_rfl) (by kernel_rfl) (by kernel_rfl) (show Tryz.prog.funcs[244]? = some Tryz.f244 by kernel_rfl) (by kernel_rfl) (by kernel_rfl) (by kernel_rfl) (by kernel_rfl)
/-- The conditions of the abstract machine. -/
theorem pok {W : World} (h : laidMetH Tryz.prog laidR W) {T : Tab} (hT : AllPure Tryz.prog (Go.Ax.frozen W) T) : POk Tryz.prog (Go.Ax.frozen W) (glOf tabR) (kn T) := pok_ofX (known h) eqsR namesR mixedR hT extsR (primsR hT)
end Go.Proofs.YtmmjfmbpilfehaaGreatDoor
