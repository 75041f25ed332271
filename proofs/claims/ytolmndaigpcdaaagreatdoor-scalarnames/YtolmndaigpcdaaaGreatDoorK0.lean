/- ScalarNames, part 0: the listed variable, the knobs and the conditions of the abstract machine. -/
import Derived.Test.YtolmndaigpcdaaaGreatDoorRows
import Derived.Test.YtolmndaigpcdaaaGreatDoorTie
import Derived.Test.YtolmndaigpcdaaaGreatDoorCards
import Derived.Test.YtolmndaigpcdaaaGreatDoorChecked
import Derived.Test.YtolmndaigpcdaaaGreatDoorMc
import Derived.ProofKit
import Derived.LaidMore
import Derived.LaidHandle
import Derived.OpenShut
import Derived.Stop.Joined
import Derived.SevenTiedAt
namespace Go.Proofs.YtolmndaigpcdaaaGreatDoor
open Go.ChangeShapes Go.WideShapes Go.ChangeAt Go.WideMaps Go.WideElems Go.RowKit Go.Ax
abbrev laidR : List (String × DataW Unit) := [("fescue/shape.table", Rows.laid_fescue_shape_table)]
theorem own : ownKnob Tryz.prog.godebug = none := by kernel_rfl
theorem gTable : Tryz.prog.globalNamed "fescue/shape.table" = some 0 := by kernel_rfl
theorem door_met (os : Os) (args : Array Value) : laidMetH Tryz.prog laidR ((World.doorLaid Tryz.prog 276 os).forCall (fun _ _ => 0) ⟨#[], args, []⟩).memory :=
  laidMetH_of_parts3 (fuel := 8) (laidMet_of_run' 8 (by kernel_rfl) (by kernel_rfl)) (by kernel_rfl) (by kernel_rfl)
def shapeCells : List AV := [.bool false, .bool false, .bool false, .bool false, .bool false, .bool false, .bool false, .bool false, .bool true, .bool false, .bool false, .bool true, .bool false, .bool false, .bool false, .bool false, .bool false, .bool true, .bool false, .bool false, .bool true, .bool false, .bool false, .bool true, .bool true, .bool true, .bool false, .bool false, .bool false, .bool true, .bool true, .bool true, .bool false, .bool false, .bool false, .bool true, .bool true, .bool true, .bool false, .bool false, .bool false, .bool true, .bool true, .bool true, .bool false, .bool false, .bool false, .bool true, .bool true, .bool true, .bool false, .bool false, .bool false, .bool true, .bool true, .bool true, .bool false, .bool false, .bool false, .bool true, .bool true, .bool true, .bool false, .bool false, .bool false, .bool true, .bool false, .bool false, .bool false, .bool false, .bool false, .bool true, .bool false, .bool false, .bool false, .bool false, .bool false, .bool true, .bool true, .bool false, .bool false, .bool false, .bool false, .bool false, .bool true, .bool false, .bool true, .bool false, .bool false, .bool true, .bool true, .bool true, .bool false, .bool false, .bool false, .bool true, .bool true, .bool false, .bool false, .bool false, .bool false, .bool true, .bool true, .bool true, .bool false, .bool false, .bool false, .bool false, .bool false, .bool false, .bool true, .bool true, .bool false, .bool true, .bool true, .bool false, .bool false, .bool true, .bool false, .bool true, .bool false, .bool false, .bool false, .bool false, .bool false, .bool true, .bool true, .bool false, .bool false, .bool false, .bool false, .bool false, .bool false, .bool false, .bool false, .bool true, .bool true, .bool true]
abbrev tabR : List (Nat × List AV) := [(0, shapeCells)]
abbrev eqR : List Nat := [170, 277, 69]
abbrev extR : FuncId → List AV → Option AV := extF 220 147
def sortedLs_ren : Shelf.Ren := ⟨fun | 6 => 39 | 8 => 81 | 9 => 82 | 11 => 124 | 13 => 126 | 12 => 125 | 23 => 170 | 24 => 171 | 14 => 161 | 15 => 162 | 16 => 163 | 17 => 164 | 18 => 165 | 19 => 166 | 20 => 167 | 21 => 168 | 22 => 169 | 25 => 193 | 26 => 194 | 27 => 195 | 28 => 196 | 29 => 197 | 30 => 198 | 31 => 215 | n => n, fun | 26 => 3 | 28 => 102 | 24 => 57 | 0 => 0 | 3 => 3 | 37 => 193 | 48 => 243 | 50 => 245 | 4 => 4 | 40 => 237 | 39 => 236 | 45 => 143 | 5 => 5 | 9 => 9 | 51 => 280 | 55 => 284 | 57 => 298 | 58 => 299 | 33 => 106 | n => n, fun | n => n⟩
theorem sortedLs : SlLaysZI.n6 Tryz.prog sortedLs_ren := { mixed := by kernel_rfl, f6 := ⟨Tryz.f39.name, by decide, Tryz.func39.trans (congrArg some (by kernel_rfl))⟩, f8 := ⟨Tryz.f81.name, by decide, Tryz.func81.trans (congrArg some (by kernel_rfl))⟩, f11 := ⟨Tryz.f124.name, by decide, Tryz.func124.trans (congrArg some (by kernel_rfl))⟩, t0 := Tryz.underlying0, a0 := Tryz.isAgg0, z0 := Tryz.sizeOf0, v0 := Tryz.zeroValue0, t24 := Tryz.underlying57, a24 := Tryz.isAgg57, z24 := Tryz.sizeOf57, v24 := Tryz.zeroValue57, t26 := Tryz.underlying3, a26 := Tryz.isAgg3, z26 := Tryz.sizeOf3, v26 := Tryz.zeroValue3, t28 := Tryz.underlying102, a28 := Tryz.isAgg102, z28 := Tryz.sizeOf102, v28 := Tryz.zeroValue102, i26 := by kernel_rfl }
def keysLs_ren : Shelf.Ren := ⟨fun | 10 => 83 | n => n, fun | 33 => 106 | 23 => 96 | 0 => 0 | 4 => 4 | 26 => 3 | 3 => 3 | n => n, fun | n => n⟩
theorem keysLs : SlLaysZI.n10 Tryz.prog keysLs_ren := { mixed := by kernel_rfl, f10 := ⟨Tryz.f83.name, by decide, Tryz.func83.trans (congrArg some (by kernel_rfl))⟩, t0 := Tryz.underlying0, a0 := Tryz.isAgg0, z0 := Tryz.sizeOf0, v0 := Tryz.zeroValue0, t4 := Tryz.underlying4, a4 := Tryz.isAgg4, z4 := Tryz.sizeOf4, v4 := Tryz.zeroValue4, t23 := Tryz.underlying96, a23 := Tryz.isAgg96, z23 := Tryz.sizeOf96, v23 := Tryz.zeroValue96, t26 := Tryz.underlying3, a26 := Tryz.isAgg3, z26 := Tryz.sizeOf3, v26 := Tryz.zeroValue3, t33 := Tryz.underlying106, a33 := Tryz.isAgg106, z33 := Tryz.sizeOf106, v33 := Tryz.zeroValue106 }
def sortLs_ren : Shelf.Ren := ⟨fun | 5 => 82 | 8 => 126 | 7 => 125 | 19 => 170 | 20 => 171 | 10 => 161 | 11 => 162 | 12 => 163 | 13 => 164 | 14 => 165 | 15 => 166 | 16 => 167 | 17 => 168 | 18 => 169 | 30 => 193 | 31 => 194 | 32 => 195 | 33 => 196 | 34 => 197 | 35 => 198 | 40 => 215 | n => n, fun | 23 => 57 | 25 => 3 | 3 => 3 | 32 => 193 | 22 => 57 | 0 => 0 | 44 => 243 | 46 => 245 | 4 => 4 | 36 => 237 | 35 => 236 | 41 => 143 | 5 => 5 | 9 => 9 | 53 => 280 | 57 => 284 | 63 => 298 | 64 => 299 | n => n, fun | n => n⟩
theorem sortLs : SlLaysM.n5 Tryz.prog sortLs_ren := { mixed := by kernel_rfl, f5 := ⟨Tryz.f82.name, by decide, Tryz.func82.trans (congrArg some (by kernel_rfl))⟩, f7 := ⟨Tryz.f125.name, by decide, Tryz.func125.trans (congrArg some (by kernel_rfl))⟩, f8 := Tryz.func126.trans (congrArg some (by kernel_rfl)), f10 := ⟨Tryz.f161.name, by decide, Tryz.func161.trans (congrArg some (by kernel_rfl))⟩, f11 := ⟨Tryz.f162.name, by decide, Tryz.func162.trans (congrArg some (by kernel_rfl))⟩, f12 := ⟨Tryz.f163.name, by decide, Tryz.func163.trans (congrArg some (by kernel_rfl))⟩, f13 := ⟨Tryz.f164.name, by decide, Tryz.func164.trans (congrArg some (by kernel_rfl))⟩, f14 := ⟨Tryz.f165.name, by decide, Tryz.func165.trans (congrArg some (by kernel_rfl))⟩, f15 := ⟨Tryz.f166.name, by decide, Tryz.func166.trans (congrArg some (by kernel_rfl))⟩, f16 := ⟨Tryz.f167.name, by decide, Tryz.func167.trans (congrArg some (by kernel_rfl))⟩, f17 := ⟨Tryz.f168.name, by decide, Tryz.func168.trans (congrArg some (by kernel_rfl))⟩, f18 := ⟨Tryz.f169.name, by decide, Tryz.func169.trans (congrArg some (by kernel_rfl))⟩, f19 := Tryz.func170.trans (congrArg some (by kernel_rfl)), f20 := Tryz.func171.trans (congrArg some (by kernel_rfl)), f30 := ⟨Tryz.f193.name, by decide, Tryz.func193.trans (congrArg some (by kernel_rfl))⟩, f31 := Tryz.func194.trans (congrArg some (by kernel_rfl)), f32 := Tryz.func195.trans (congrArg some (by kernel_rfl)), f33 := ⟨Tryz.f196.name, by decide, Tryz.func196.trans (congrArg some (by kernel_rfl))⟩, f34 := ⟨Tryz.f197.name, by decide, Tryz.func197.trans (congrArg some (by kernel_rfl))⟩, f35 := ⟨Tryz.f198.name, by decide, Tryz.func198.trans (congrArg some (by kernel_rfl))⟩, f40 := ⟨Tryz.f215.name, by decide, Tryz.func215.trans (congrArg some (by kernel_rfl))⟩, t0 := Tryz.underlying0, a0 := Tryz.isAgg0, z0 := Tryz.sizeOf0, v0 := Tryz.zeroValue0, t3 := Tryz.underlying3, a3 := Tryz.isAgg3, z3 := Tryz.sizeOf3, v3 := Tryz.zeroValue3, t4 := Tryz.underlying4, a4 := Tryz.isAgg4, z4 := Tryz.sizeOf4, v4 := Tryz.zeroValue4, t5 := Tryz.underlying5, a5 := Tryz.isAgg5, z5 := Tryz.sizeOf5, v5 := Tryz.zeroValue5, t9 := Tryz.underlying9, a9 := Tryz.isAgg9, z9 := Tryz.sizeOf9, v9 := Tryz.zeroValue9, t22 := Tryz.underlying57, a22 := Tryz.isAgg57, z22 := Tryz.sizeOf57, v22 := Tryz.zeroValue57, t23 := Tryz.underlying57, a23 := Tryz.isAgg57, z23 := Tryz.sizeOf57, v23 := Tryz.zeroValue57, t25 := Tryz.underlying3, a25 := Tryz.isAgg3, z25 := Tryz.sizeOf3, v25 := Tryz.zeroValue3, t32 := Tryz.underlying193, a32 := Tryz.isAgg193, z32 := Tryz.sizeOf193, v32 := Tryz.zeroValue193, t35 := Tryz.underlying236, a35 := Tryz.isAgg236, z35 := Tryz.sizeOf236, v35 := Tryz.zeroValue236, t36 := Tryz.underlying237, a36 := Tryz.isAgg237, z36 := Tryz.sizeOf237, v36 := Tryz.zeroValue237, t41 := Tryz.underlying143, a41 := Tryz.isAgg143, z41 := Tryz.sizeOf143, v41 := Tryz.zeroValue143, t44 := Tryz.underlying243, a44 := Tryz.isAgg243, z44 := Tryz.sizeOf243, v44 := Tryz.zeroValue243, t46 := Tryz.underlying245, a46 := Tryz.isAgg245, z46 := Tryz.sizeOf245, v46 := Tryz.zeroValue245, t53 := Tryz.underlying280, a53 := Tryz.isAgg280, z53 := Tryz.sizeOf280, v53 := Tryz.zeroValue280, t57 := Tryz.underlying284, a57 := Tryz.isAgg284, z57 := Tryz.sizeOf284, v57 := Tryz.zeroValue284, t63 := Tryz.underlying298, a63 := Tryz.isAgg298, z63 := Tryz.sizeOf298, v63 := Tryz.zeroValue298, t64 := Tryz.underlying299, a64 := Tryz.isAgg299, z64 := Tryz.sizeOf299, v64 := Tryz.zeroValue299 }
/-- The calls that are not walked: told ones, their memory frozen; slices.Sorted of a map's keys. -/
abbrev primR (T : Tab) : FuncId → List AV → Hp → Option (AV × Hp) := primOr (frzP [45] T) (sortedP 39 83 3)
abbrev kn (T : Tab) : Knob := knobX eqR T extR (primR T)
theorem primsR {F : Nat → Option Obj} {T : Tab} (hT : AllPure Tryz.prog F T) : PrimOk Tryz.prog F (primR T) :=
  primOr_ok (frzP_ok hT) fun _ _ _ _ _ hp => sortedP_ok sortedLs keysLs sortLs rfl rfl Tryz.underlying3 hp
noncomputable abbrev cx (T : Tab) : Ctx := Ctx.of Tryz.prog (glOf tabR) (kn T)
theorem flatR : flatD (cx []) 4 (((Tryz.prog.globals[0]?).map (·.type)).getD 0) Rows.laid_fescue_shape_table = some shapeCells := by kernel_rfl
theorem known {W : World} (h : laidMetH Tryz.prog laidR W) : Known Tryz.prog W tabR := by
  have h' : laidMet Tryz.prog [("fescue/shape.table", Rows.laid_fescue_shape_table)] W := h
  obtain ⟨ps, ⟨g, t, cs, fuel, p, q, hg, ht, hv, htr, _, _⟩, _, _⟩ := h'
  obtain rfl := Option.some.inj (gTable.symm.trans hg)
  intro g l hm
  obtain ⟨rfl, rfl⟩ : g = 0 ∧ l = shapeCells := by simpa using hm
  have hf := flatR
  rw [ht] at hf
  simp only [World.var?, gTable, Option.bind_some] at hv
  split at hv
  case h_2 => cases hv
  rename_i arr e fz hw
  cases hv
  exact ⟨_, _, _, hw, fun m => flatD_rel 4 _ _ _ fuel _ p hf htr⟩
theorem eqsR : (eqR.all (eqCheck Tryz.prog)) = true := by kernel_rfl
theorem namesR : (Tryz.prog.funcs.all fun fn => !(fn.body.isSome && fn.name == "runtime.NumGoroutine")) = true := by kernel_rfl
theorem mixedR : Tryz.prog.follows .mixedOrders = true := by kernel_rfl
theorem extsR {F : Nat → Option Obj} : ExtOk Tryz.prog F extR :=
  extOk_of (show Tryz.prog.funcs[220]? = some Tryz.f220 by kernel_rfl) (by kernel_rfl) (by kernel_rfl) (by kernel_rfl) (by kernel_rfl) (show Tryz.prog.funcs[147]? = some Tryz.f147 by kernel_rfl) (by kernel_rfl) (by kernel_rfl) (by kernel_rfl) (by kernel_rfl)
/-- The conditions of the abstract machine. -/
theorem pok {W : World} (h : laidMetH Tryz.prog laidR W) {T : Tab} (hT : AllPure Tryz.prog (Go.Ax.frozen W) T) : POk Tryz.prog (Go.Ax.frozen W) (glOf tabR) (kn T) := pok_ofX (known h) eqsR namesR mixedR hT extsR (primsR hT)
end Go.Proofs.YtolmndaigpcdaaaGreatDoor
