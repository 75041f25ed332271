/- StepNames, part 0: the listed variables, the knobs (errors.As among them) and the conditions of the abstract machine. -/
import Derived.Test.YtciljbmodhjpiaaGreatDoorRows
import Derived.Test.YtciljbmodhjpiaaGreatDoorTie
import Derived.Test.YtciljbmodhjpiaaGreatDoorCards
import Derived.Test.YtciljbmodhjpiaaGreatDoorMc
import Derived.Test.YtciljbmodhjpiaaGreatDoorSA
import Derived.ProofKit
import Derived.LaidMore
import Derived.LaidHandle
import Derived.OpenShut
import Derived.Stop.Joined
import Derived.SevenTiedAt
namespace Go.Proofs.YtciljbmodhjpiaaGreatDoor
open Go.ChangeShapes Go.WideShapes Go.ChangeAt Go.WideMaps Go.WideElems Go.RowKit Go.Ax
abbrev laidR : List (String × DataW Unit) := [("errors.errorType", Rows.laid_errors_errorType), ("fescue/shape.table", Rows.laid_fescue_shape_table)]
theorem own : ownKnob Tryz.prog.godebug = none := by kernel_rfl
theorem gTable : Tryz.prog.globalNamed "fescue/shape.table" = some 1 := by kernel_rfl
theorem gErr : Tryz.prog.globalNamed "errors.errorType" = some 0 := by kernel_rfl
theorem door_met (os : Os) (args : Array Value) : laidMetH Tryz.prog laidR ((World.doorLaid Tryz.prog 58 os).forCall (fun _ _ => 0) ⟨#[], args, []⟩).memory :=
  laidMetH_of_parts3 (fuel := 8) (laidMet_of_run' 8 (by kernel_rfl) (by kernel_rfl)) (by kernel_rfl) (by kernel_rfl)
def shapeCells : List AV := [.bool false, .bool false, .bool false, .bool false, .bool false, .bool false, .bool false, .bool false, .bool true, .bool false, .bool false, .bool true, .bool false, .bool false, .bool false, .bool false, .bool false, .bool true, .bool false, .bool false, .bool true, .bool false, .bool false, .bool true, .bool true, .bool true, .bool false, .bool false, .bool false, .bool true, .bool true, .bool true, .bool false, .bool false, .bool false, .bool true, .bool true, .bool true, .bool false, .bool false, .bool false, .bool true, .bool true, .bool true, .bool false, .bool false, .bool false, .bool true, .bool true, .bool true, .bool false, .bool false, .bool false, .bool true, .bool true, .bool true, .bool false, .bool false, .bool false, .bool true, .bool true, .bool true, .bool false, .bool false, .bool false, .bool true, .bool false, .bool false, .bool false, .bool false, .bool false, .bool true, .bool false, .bool false, .bool false, .bool false, .bool false, .bool true, .bool true, .bool false, .bool false, .bool false, .bool false, .bool false, .bool true, .bool false, .bool true, .bool false, .bool false, .bool true, .bool true, .bool true, .bool false, .bool false, .bool false, .bool true, .bool true, .bool false, .bool false, .bool false, .bool false, .bool true, .bool true, .bool true, .bool false, .bool false, .bool false, .bool false, .bool false, .bool false, .bool true, .bool true, .bool false, .bool true, .bool true, .bool false, .bool false, .bool true, .bool false, .bool true, .bool false, .bool false, .bool false, .bool false, .bool false, .bool true, .bool true, .bool false, .bool false, .bool false, .bool false, .bool false, .bool false, .bool false, .bool false, .bool true, .bool true, .bool true]
abbrev tabR : List (Nat × List AV) := [(1, shapeCells)]
abbrev eqR : List Nat := [43, 235, 361, 168, 63]
abbrev extR : FuncId → List AV → Option AV := extF 287 228
/-- errors.As, where the error is a trap, and the target points to one. -/
def asP (f : FuncId) (args : List AV) (h : Hp) : Option (AV × Hp) :=
  bif Nat.beq f 49 then (match args with
    | [.iface t (.agg [.int .i64 n]), .iface u (.ptr r o)] => bif Nat.beq t 118 && Nat.beq u 120 then (match h.get r with
      | some (.cells e cs) => bif Nat.blt o cs.length then some (.bool true, h.put r (.cells e (putCells cs o [.int .i64 n]))) else none
      | _ => none) else none
    | _ => none) else none
abbrev kn (T : Tab) : Knob := knobX eqR T extR asP
noncomputable abbrev cx (T : Tab) : Ctx := Ctx.of Tryz.prog (glOf tabR) (kn T)
theorem flatR : flatD (cx []) 4 (((Tryz.prog.globals[1]?).map (·.type)).getD 0) Rows.laid_fescue_shape_table = some shapeCells := by kernel_rfl
theorem known {W : World} (h : laidMetH Tryz.prog laidR W) : Known Tryz.prog W tabR := by
  have h' : laidMet Tryz.prog [("fescue/shape.table", Rows.laid_fescue_shape_table)] W ∧ handlesMet Tryz.prog [("errors.errorType", Rows.laid_errors_errorType)] W := h
  obtain ⟨ps, ⟨g, t, cs, fuel, p, q, hg, ht, hv, htr, _, _⟩, _, _⟩ := h'.1
  obtain rfl := Option.some.inj (gTable.symm.trans hg)
  intro g l hm
  obtain ⟨rfl, rfl⟩ : g = 1 ∧ l = shapeCells := by simpa using hm
  have hf := flatR
  rw [ht] at hf
  simp only [World.var?, gTable, Option.bind_some] at hv
  split at hv
  case h_2 => cases hv
  rename_i arr e fz hw
  cases hv
  exact ⟨_, _, _, hw, fun m => flatD_rel 4 _ _ _ fuel _ p hf htr⟩
theorem rtR : (Tryz.prog.cutTypes.find? (·.1 == "internal/reflectlite.rtype")).map (·.2) = some 263 := by kernel_rfl
theorem oneRow : ((List.range 436).filter fun t => Tryz.prog.rowNamed t [101, 114, 114, 111, 114]) = [112] := by kernel_rfl
theorem typesSize : Tryz.prog.types.size = 436 := by kernel_rfl
/-- The cell of errors.errorType. -/
theorem handle_of_laid {W : World} (h : laidMetH Tryz.prog laidR W) : W.cell? ⟨0, 0, none⟩ = some (.iface 263 (.agg #[.pointer (some ⟨6, 112, none⟩)])) := by
  have h' : laidMet Tryz.prog [("fescue/shape.table", Rows.laid_fescue_shape_table)] W ∧ handlesMet Tryz.prog [("errors.errorType", Rows.laid_errors_errorType)] W := h
  obtain ⟨name, u, ty, e1, e2, e3, e4, e5⟩ := h'.2 _ (List.mem_singleton.2 rfl)
  have en : name = [101, 114, 114, 111, 114] := (Option.some.inj e1).symm
  subst en
  obtain rfl := Option.some.inj (rtR.symm.trans e2)
  have hm : ty ∈ (List.range 436).filter fun t => Tryz.prog.rowNamed t [101, 114, 114, 111, 114] := List.mem_filter.2 ⟨List.mem_range.2 (by rw [← typesSize]; exact e3), e4⟩
  rw [oneRow] at hm
  obtain rfl := List.mem_singleton.1 hm
  have hh : typeHandle Tryz.prog 112 = .pointer (some ⟨6, 112, none⟩) := by kernel_rfl
  rw [hh] at e5
  simpa using World.var?_cell gErr e5 0
theorem primsR {W : World} (hL : laidMetH Tryz.prog laidR W) : PrimOk Tryz.prog (Go.Ax.frozen W) asP := by
  intro f args h v h' hp
  unfold asP at hp
  cases h1 : Nat.beq f 49 with
  | false => rw [h1] at hp; cases hp
  | true =>
  rw [h1, cond_true] at hp
  obtain rfl := Nat.eq_of_beq_eq_true h1
  split at hp
  case h_2 => cases hp
  rename_i t n u r o
  cases h2 : (Nat.beq t 118 && Nat.beq u 120) with
  | false => rw [h2] at hp; cases hp
  | true =>
  rw [h2, cond_true] at hp
  obtain ⟨h3, h4⟩ := and_bool h2
  obtain rfl := Nat.eq_of_beq_eq_true h3
  obtain rfl := Nat.eq_of_beq_eq_true h4
  cases hg : h.get r with
  | none => rw [hg] at hp; cases hp
  | some ob =>
  rw [hg] at hp
  cases ob <;> first | (cases hp; done) | skip
  rename_i e cs
  dsimp only at hp
  cases h5 : Nat.blt o cs.length with
  | false => rw [h5] at hp; cases hp
  | true =>
  rw [h5] at hp
  cases hp
  have ho : o < cs.length := Nat.le_of_ble_eq_true h5
  refine ⟨.put hg _, fun m w k cargs hR hA _ => ?_⟩
  obtain ⟨c1, l1, e1, e2, e3⟩ := hA.cases_cons
  obtain ⟨c2, l2, e4, e5, e6⟩ := e3.cases_cons
  subst e4
  cases e6.cases_nil
  obtain ⟨cv, rfl, e7⟩ := e2.iface_inv
  obtain ⟨xs, rfl, e8⟩ := LRel.of_agg e7
  obtain ⟨x0, l3, e9, e10, e11⟩ := e8.cases_cons
  obtain rfl := e11.cases_nil
  obtain rfl := e10.int_inv
  obtain rfl := Array.ext' (ys := #[Value.int .i64 n]) e9
  obtain ⟨cp, rfl, e12⟩ := e5.iface_inv
  obtain ⟨b, z, hm, rfl⟩ := e12.ptr_inv
  obtain rfl := Array.ext' (ys := #[Value.iface 118 (.agg #[.int .i64 n]), Value.iface 120 (.pointer (some ⟨b, o, none⟩))]) e1
  obtain ⟨arr, g1, g2, g3, g4⟩ := hR.obj r _ b z hg hm
  have hoa : o < arr.size := by omega
  have ht0 : w.cell? ⟨b, o, none⟩ = some arr[o] := by rw [cell_cells g1, Array.getElem?_eq_getElem hoa]
  have hf0 : w.frozen? ⟨b, o, none⟩ = false := by simp [World.frozen?, g1]
  have hgl : w.cell? ⟨0, 0, none⟩ = some (.iface 263 (.agg #[.pointer (some ⟨6, 112, none⟩)])) := by
    have hW := handle_of_laid hL
    have h0 : ∃ ob, W.heap[0]? = some ob := by
      cases hq : W.heap[0]? with
      | none => simp [World.cell?, hq] at hW
      | some ob => exact ⟨ob, rfl⟩
    obtain ⟨ob, hob⟩ := h0
    have hw0 : w.heap[0]? = some ob := hR.frz 0 ob (.inl hob)
    have : w.cell? ⟨0, 0, none⟩ = W.cell? ⟨0, 0, none⟩ := by unfold World.cell?; rw [hw0, hob]
    rw [this]; exact hW
  refine (callsIn_wide.2 (As.as_hit ⟨b, o, none⟩ n arr[o] w hgl ht0 hf0)).mono fun e w' he => ?_
  obtain ⟨rfl, hw'⟩ := he
  have hbl := hR.lt hg rfl hm
  generalize hw4 : (((w.alloc (.cells #[.pointer (some ⟨b, o, none⟩)] 120)).alloc (.cells #[.pointer (some ⟨6, 120, none⟩), .pointer (some ⟨w.heap.size, 0, none⟩), .int .u64 150] 185)).alloc (.cells #[.pointer (some ⟨6, 120, none⟩), .pointer (some ⟨w.heap.size, 0, none⟩), .int .u64 150] 185)).alloc (.cells #[.int .i64 n] 118) = w4 at hw'
  have hold : ∀ c, c < w.heap.size → w4.heap[c]? = w.heap[c]? := fun c hc => by
    rw [← hw4]
    simp only [World.alloc]
    rw [Array.getElem?_push, if_neg (by simp only [Array.size_push]; omega), Array.getElem?_push, if_neg (by simp only [Array.size_push]; omega), Array.getElem?_push, if_neg (by simp only [Array.size_push]; omega), Array.getElem?_push, if_neg (by omega)]
  have s1 : Step Tryz.prog (Go.Ax.frozen W) m h h w w4 m := Step.grow hR (by rw [← hw4]; simp only [World.alloc, Array.size_push]; omega) hold (by rw [← hw4]; exact ⟨rfl, rfl, rfl⟩)
  have g1' : w4.heap[b]? = some (.cells arr e (0, 0)) := by rw [hold b hbl]; exact g1
  have s2 : Step Tryz.prog (Go.Ax.frozen W) m h (h.put r (.cells e (putCells cs o [.int .i64 n]))) w4 w' m := by
    have hlr : LRel Tryz.prog (Go.Ax.frozen W) m [AV.int .i64 n] [Value.int .i64 n] := .cons (.int _ _) .nil
    obtain ⟨w5, hst, hstep⟩ := Step.cells (P := Tryz.prog) s1.rel hg hm hlr rfl (show o + 1 ≤ cs.length from ho)
    have : w5 = w' := by
      rw [hw']
      have hrun := hst
      simp only [storeCells, Sem.run_bind] at hrun
      rw [show ((⟨b, o, none⟩ : Addr).add 0) = ⟨b, o, none⟩ by simp [Addr.add], run_store Tryz.prog w4 ⟨b, o, none⟩ _ _ (by rfl)] at hrun
      have hc4 : w4.cell? ⟨b, o, none⟩ = some arr[o] := by rw [cell_cells g1', Array.getElem?_eq_getElem hoa]
      have hf4 : w4.frozen? ⟨b, o, none⟩ = false := by simp [World.frozen?, g1']
      simp [hc4, hf4, Result.andThen] at hrun
      exact hrun.symm
    rw [← this]; exact hstep
  exact ⟨.bool true, m, rfl, s1.trans s2, .bool true⟩
theorem eqsR : (eqR.all (eqCheck Tryz.prog)) = true := by kernel_rfl
theorem namesR : (Tryz.prog.funcs.all fun fn => !(fn.body.isSome && fn.name == "runtime.NumGoroutine")) = true := by kernel_rfl
theorem mixedR : Tryz.prog.follows .mixedOrders = true := by kernel_rfl
theorem extsR {F : Nat → Option Obj} : ExtOk Tryz.prog F extR :=
  extOk_of (show Tryz.prog.funcs[287]? = some Tryz.f287 by kernel_rfl) (by kernel_rfl) (by kernel_rfl) (by kernel_rfl) (by kernel_rfl) (show Tryz.prog.funcs[228]? = some Tryz.f228 by kernel_rfl) (by kernel_rfl) (by kernel_rfl) (by kernel_rfl) (by kernel_rfl)
/-- The conditions of the abstract machine. -/
theorem pok {W : World} (h : laidMetH Tryz.prog laidR W) {T : Tab} (hT : AllPure Tryz.prog (Go.Ax.frozen W) T) : POk Tryz.prog (Go.Ax.frozen W) (glOf tabR) (kn T) := pok_ofX (known h) eqsR namesR mixedR hT extsR (primsR h)
end Go.Proofs.YtciljbmodhjpiaaGreatDoor
