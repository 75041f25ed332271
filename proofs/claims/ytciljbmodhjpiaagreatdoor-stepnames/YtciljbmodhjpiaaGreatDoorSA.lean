/- errors.As, at an error of the type step.trap and a target that points to a trap: it answers true, and the target has the error's number. -/
import Derived.Test.YtciljbmodhjpiaaGreatDoorChecked
import Derived.WalkKit
import Derived.LaidEql
import Derived.Stop.Asserts
import Derived.RowKitTokens
namespace Go.Proofs.YtciljbmodhjpiaaGreatDoor.As
open Go.RowKit Go.Extern.Stop Go.Stop Go.Extern

theorem valueOf120 (t : Addr) (w : World) : (ReflectliteValue.unpack (.iface 120 (.pointer (some t)))).run Tryz.prog w
    = .ok (.agg #[.pointer (some ⟨6, 120, none⟩), .pointer (some ⟨w.heap.size, 0, none⟩), .int .u64 150]) (w.alloc (.cells #[.pointer (some t)] 120)) := by kernel_rfl
theorem type120 (a : Addr) (w : World) : (ReflectliteValue.methodAny (ReflectliteValue.valueError "reflectlite.Value.Type" 0) (fun t _ _ _ => ReflectliteType.toType t) #[.agg #[.pointer (some ⟨6, 120, none⟩), .pointer (some a), .int .u64 150]]).run Tryz.prog w
    = .ok (.iface 263 (.agg #[.pointer (some ⟨6, 120, none⟩)])) w := by kernel_rfl
theorem methodKind (h : Value) (w : World) : (Go.method 536 263 (.agg #[h]) "Kind").run Tryz.prog w = .ok (304, h) w := by kernel_rfl
theorem kind120 (w : World) : ((ReflectliteType.abiMethod fun t => (fun a : Nat => Value.int IntKind.u8 (a : Int)) <$> Rtype.kind t) #[.pointer (some ⟨6, 120, none⟩)]).run Tryz.prog w = .ok (.int .u8 22) w := by kernel_rfl
theorem kind118 (w : World) : ((ReflectliteType.abiMethod fun t => (fun a : Nat => Value.int IntKind.u8 (a : Int)) <$> Rtype.kind t) #[.pointer (some ⟨6, 118, none⟩)]).run Tryz.prog w = .ok (.int .u8 25) w := by kernel_rfl
theorem rlm (z : Sem Value) (f : TypeId → Addr → Nat → Nat → Sem Value) (v : Value) :
    ReflectliteValue.method z f #[v] = (do match ← ReflectliteValue.parts v with | none => z | some (t, a, fl) => f t a fl (fl % 32)) := rfl
theorem parts120 (a : Addr) (w : World) : (ReflectliteValue.parts (.agg #[.pointer (some ⟨6, 120, none⟩), .pointer (some a), .int .u64 150])).run Tryz.prog w = .ok (some (120, a, 150)) w := by kernel_rfl
theorem isNil120 (a p : Addr) (W : World) (ha : W.cell? a = some (.pointer (some p))) :
    (ReflectliteValue.method (ReflectliteValue.valueError "reflectlite.Value.IsNil" 0) ReflectliteValue.isNil #[.agg #[.pointer (some ⟨6, 120, none⟩), .pointer (some a), .int .u64 150]]).run Tryz.prog W = .ok (.bool false) W := by
  rw [rlm]
  simp only [Sem.run_bind, parts120, Result.andThen]
  simp [ReflectliteValue.isNil, loadVar, isAgg, underlying, Tryz.underlying120, ha, Result.andThen]
theorem methodElem (h : Value) (w : World) : (Go.method 536 263 (.agg #[h]) "Elem").run Tryz.prog w = .ok (331, .agg #[h]) w := by kernel_rfl
theorem methodImplements (h : Value) (w : World) : (Go.method 536 263 (.agg #[h]) "Implements").run Tryz.prog w = .ok (332, .agg #[h]) w := by kernel_rfl
theorem methodAssignableTo (h : Value) (w : World) : (Go.method 536 263 (.agg #[h]) "AssignableTo").run Tryz.prog w = .ok (329, .agg #[h]) w := by kernel_rfl
theorem elem120 (w : World) : (ReflectliteType.method ReflectliteType.elem #[.agg #[.pointer (some ⟨6, 120, none⟩)]]).run Tryz.prog w = .ok (.iface 263 (.agg #[.pointer (some ⟨6, 118, none⟩)])) w := by kernel_rfl
theorem implements118 (w : World) : (ReflectliteType.relation "Implements" ReflectliteType.implements_ #[.agg #[.pointer (some ⟨6, 118, none⟩)], .iface 263 (.agg #[.pointer (some ⟨6, 112, none⟩)])]).run Tryz.prog w = .ok (.bool true) w := by kernel_rfl
theorem typeOf118 (v : Value) (w : World) : (ReflectliteType.typeOf #[.iface 118 v]).run Tryz.prog w = .ok (.iface 263 (.agg #[.pointer (some ⟨6, 118, none⟩)])) w := by kernel_rfl
theorem assignable118 (w : World) : (ReflectliteType.relation "AssignableTo" ReflectliteType.assignableTo #[.agg #[.pointer (some ⟨6, 118, none⟩)], .iface 263 (.agg #[.pointer (some ⟨6, 118, none⟩)])]).run Tryz.prog w = .ok (.bool true) w := by kernel_rfl
theorem valueOf118 (c : Value) (w : World) : (ReflectliteValue.unpack (.iface 118 (.agg #[c]))).run Tryz.prog w
    = .ok (.agg #[.pointer (some ⟨6, 118, none⟩), .pointer (some ⟨w.heap.size, 0, none⟩), .int .u64 153]) (w.alloc (.cells #[c] 118)) := by kernel_rfl
theorem elemOf120 (w : World) : (Rtype.elem? 120).run Tryz.prog w = .ok (some 118) w := by kernel_rfl
theorem mk118 (p : Addr) (w : World) : (ReflectliteValue.mk 118 p ReflectliteValue.flagAddr).run Tryz.prog w = .ok (.agg #[.pointer (some ⟨6, 118, none⟩), .pointer (some p), .int .u64 409]) w := by kernel_rfl
theorem elemV120 (a p : Addr) (W : World) (ha : W.cell? a = some (.pointer (some p))) :
    (ReflectliteValue.method (ReflectliteValue.valueError "reflectlite.Value.Elem" 0) ReflectliteValue.elem #[.agg #[.pointer (some ⟨6, 120, none⟩), .pointer (some a), .int .u64 150]]).run Tryz.prog W
      = .ok (.agg #[.pointer (some ⟨6, 118, none⟩), .pointer (some p), .int .u64 409]) W := by
  rw [rlm]
  simp only [Sem.run_bind, parts120, Result.andThen]
  simp [ReflectliteValue.elem, loadVar, isAgg, underlying, Tryz.underlying120, ha, Result.andThen, elemOf120, mk118]
theorem rls (v x : Value) : ReflectliteValue.set #[v, x] = (do
    let (some (dst, a, fl), some (src, b, _)) := (← ReflectliteValue.parts v, ← ReflectliteValue.parts x)
      | unsupported (.noEntry "extern/(internal/reflectlite.Value).Set.zeroValue")
    if fl / ReflectliteValue.flagAddr % 2 == 0 then unsupported (.noEntry "extern/(internal/reflectlite.Value).Set.unaddressable")
    let val ← loadVar src b
    if ← Rtype.directlyAssignable dst src then storeVar dst a val
    else if ← Rtype.implements dst src then
      if (← Rtype.kind src) == 20 then
        match val with
        | .nilIface => unsupported (.noEntry "extern/reflectlite: a nil value of one interface type handed on as a value of another")
        | _ => storeVar dst a val
      else storeVar dst a (.iface src val)
    else panicString ("reflectlite.Set: value of type " ++ (← Rtype.spelt src) ++ " is not assignable to type " ++ (← Rtype.spelt dst))
    pure (.tuple #[])) := rfl
theorem parts118a (a : Addr) (w : World) : (ReflectliteValue.parts (.agg #[.pointer (some ⟨6, 118, none⟩), .pointer (some a), .int .u64 409])).run Tryz.prog w = .ok (some (118, a, 409)) w := by kernel_rfl
theorem parts118 (a : Addr) (w : World) : (ReflectliteValue.parts (.agg #[.pointer (some ⟨6, 118, none⟩), .pointer (some a), .int .u64 153])).run Tryz.prog w = .ok (some (118, a, 153)) w := by kernel_rfl
theorem direct118 (w : World) : (Rtype.directlyAssignable 118 118).run Tryz.prog w = .ok true w := by kernel_rfl
theorem size118 (w : World) : (sizeOf 118).run Tryz.prog w = .ok 1 w := by kernel_rfl
theorem isAgg118 (w : World) : (isAgg 118).run Tryz.prog w = .ok true w := by kernel_rfl
theorem set118 (ta b : Addr) (n : Int) (old : Value) (W : World) (hb : W.cell? b = some (.int .i64 n)) (ht : W.cell? ta = some old) (hf : W.frozen? ta = false) :
    (ReflectliteValue.set #[.agg #[.pointer (some ⟨6, 118, none⟩), .pointer (some ta), .int .u64 409], .agg #[.pointer (some ⟨6, 118, none⟩), .pointer (some b), .int .u64 153]]).run Tryz.prog W
      = .ok (.tuple #[]) (W.setCell ta (.int .i64 n)) := by
  have hl : (loadVar 118 b).run Tryz.prog W = .ok (.agg #[.int .i64 n]) W := by
    have hlc : (loadCells b 1).run Tryz.prog W = .ok #[.int .i64 n] W := by
      have := run_loadCells_list (P := Tryz.prog) W b [.int .i64 n] (fun j v hj => by
        cases j with
        | zero => simp at hj; subst hj; rw [show b.add 0 = b by simp [Addr.add]]; exact hb
        | succ j => simp at hj)
      simpa using this
    simp [loadVar, hlc, Result.andThen]
  rw [rls]
  simp only [Sem.run_bind, parts118a, parts118, Result.andThen]
  simp [ReflectliteValue.flagAddr, hl, Result.andThen, direct118, storeVar, Value.cells, storeCells, Addr.add]
  rw [run_store Tryz.prog W ta _ _ (by rfl)]
  simp [ht, hf]

set_option maxRecDepth 100000 in
set_option maxHeartbeats 4000000 in
theorem as_hit (t : Addr) (n : Int) (old : Value) (w : World) (hg : w.cell? ⟨0, 0, none⟩ = some (.iface 263 (.agg #[.pointer (some ⟨6, 112, none⟩)]))) (ht0 : w.cell? t = some old) (hf0 : w.frozen? t = false) :
    Calls Tryz.prog 49 #[.iface 118 (.agg #[.int .i64 n]), .iface 120 (.pointer (some t))] w fun ev w' => ev = .returned (.bool true) ∧ w' = ((((w.alloc (.cells #[.pointer (some t)] 120)).alloc (.cells #[.pointer (some ⟨6, 120, none⟩), .pointer (some ⟨w.heap.size, 0, none⟩), .int .u64 150] 185)).alloc (.cells #[.pointer (some ⟨6, 120, none⟩), .pointer (some ⟨w.heap.size, 0, none⟩), .int .u64 150] 185)).alloc (.cells #[.int .i64 n] 118)).setCell t (.int .i64 n) := by
  have h113 := @run_callFunc_extern Tryz.prog 113 _ (fun args => ReflectliteValue.unpack (args.getD 0 (.tuple #[]))) Tryz.func113 (by kernel_rfl) (by kernel_rfl) (by kernel_rfl) (by kernel_rfl)
  have h114 := @run_callFunc_extern Tryz.prog 114 _ (ReflectliteValue.methodAny (ReflectliteValue.valueError "reflectlite.Value.Type" 0) (fun t _ _ _ => ReflectliteType.toType t)) Tryz.func114 (by kernel_rfl) (by kernel_rfl) (by kernel_rfl) (by kernel_rfl)
  have h115 := @run_callFunc_extern Tryz.prog 115 _ (ReflectliteValue.method (ReflectliteValue.valueError "reflectlite.Value.IsNil" 0) ReflectliteValue.isNil) Tryz.func115 (by kernel_rfl) (by kernel_rfl) (by kernel_rfl) (by kernel_rfl)
  have h304 := @run_callFunc_extern Tryz.prog 304 _ (ReflectliteType.abiMethod fun t => do pure (.int .u8 (← Rtype.kind t))) Tryz.func304 (by kernel_rfl) (by kernel_rfl) (by kernel_rfl) (by kernel_rfl)
  have h331 := @run_callFunc_extern Tryz.prog 331 _ (ReflectliteType.method ReflectliteType.elem) Tryz.func331 (by kernel_rfl) (by kernel_rfl) (by kernel_rfl) (by kernel_rfl)
  have h332 := @run_callFunc_extern Tryz.prog 332 _ (ReflectliteType.relation "Implements" ReflectliteType.implements_) Tryz.func332 (by kernel_rfl) (by kernel_rfl) (by kernel_rfl) (by kernel_rfl)
  have h168 := @run_callFunc_extern Tryz.prog 168 _ ReflectliteType.typeOf Tryz.func168 (by kernel_rfl) (by kernel_rfl) (by kernel_rfl) (by kernel_rfl)
  have h329 := @run_callFunc_extern Tryz.prog 329 _ (ReflectliteType.relation "AssignableTo" ReflectliteType.assignableTo) Tryz.func329 (by kernel_rfl) (by kernel_rfl) (by kernel_rfl) (by kernel_rfl)
  have h169 := @run_callFunc_extern Tryz.prog 169 _ (ReflectliteValue.method (ReflectliteValue.valueError "reflectlite.Value.Elem" 0) ReflectliteValue.elem) Tryz.func169 (by kernel_rfl) (by kernel_rfl) (by kernel_rfl) (by kernel_rfl)
  have h170 := @run_callFunc_extern Tryz.prog 170 _ ReflectliteValue.set Tryz.func170 (by kernel_rfl) (by kernel_rfl) (by kernel_rfl) (by kernel_rfl)
  have tO := typeOf118
  have mA := methodAssignableTo
  have a118 := assignable118
  have v118 := valueOf118
  have f113 := valueOf120
  have f114 := type120
  have mK := methodKind
  have mE := methodElem
  have mI := methodImplements
  have k120 := kind120
  have k118 := kind118
  have e120 := elem120
  have i118 := implements118
  have n115 := isNil120 ⟨w.heap.size, 0, none⟩ t ((w.alloc (.cells #[.pointer (some t)] 120)).alloc (.cells #[.pointer (some ⟨6, 120, none⟩), .pointer (some ⟨w.heap.size, 0, none⟩), .int .u64 150] 185)) (by simp)
  have hlt : 0 < w.heap.size := by
    rcases Nat.eq_zero_or_pos w.heap.size with h0 | h
    · simp [World.cell?, h0] at hg
    · exact h
  have hg2 : ((w.alloc (.cells #[.pointer (some t)] 120)).alloc (.cells #[.pointer (some ⟨6, 120, none⟩), .pointer (some ⟨w.heap.size, 0, none⟩), .int .u64 150] 185)).cell? ⟨0, 0, none⟩ = some (.iface 263 (.agg #[.pointer (some ⟨6, 112, none⟩)])) := by
    rw [World.cell?_alloc_lt _ _ ⟨0, 0, none⟩ (by simp), World.cell?_alloc_lt _ _ ⟨0, 0, none⟩ hlt]; exact hg
  have htl : t.block < w.heap.size := by
    rcases Nat.lt_or_ge t.block w.heap.size with h | h
    · exact h
    · simp [World.cell?, Array.getElem?_eq_none h] at ht0
  have el := elemV120 ⟨w.heap.size, 0, none⟩ t (((w.alloc (.cells #[.pointer (some t)] 120)).alloc (.cells #[.pointer (some ⟨6, 120, none⟩), .pointer (some ⟨w.heap.size, 0, none⟩), .int .u64 150] 185)).alloc (.cells #[.pointer (some ⟨6, 120, none⟩), .pointer (some ⟨w.heap.size, 0, none⟩), .int .u64 150] 185)) (by rw [World.cell?_alloc_lt _ _ ⟨w.heap.size, 0, none⟩ (by simp; omega)]; simp)
  have st := set118 t ⟨w.heap.size + 1 + 1 + 1, 0, none⟩ n old ((((w.alloc (.cells #[.pointer (some t)] 120)).alloc (.cells #[.pointer (some ⟨6, 120, none⟩), .pointer (some ⟨w.heap.size, 0, none⟩), .int .u64 150] 185)).alloc (.cells #[.pointer (some ⟨6, 120, none⟩), .pointer (some ⟨w.heap.size, 0, none⟩), .int .u64 150] 185)).alloc (.cells #[.int .i64 n] 118))
    (by rw [World.cell?_alloc_at _ _ _ _ (by simp)]; rfl)
    (by rw [World.cell?_alloc_lt _ _ t (by simp; omega), World.cell?_alloc_lt _ _ t (by simp; omega), World.cell?_alloc_lt _ _ t (by simp; omega), World.cell?_alloc_lt _ _ t htl]; exact ht0)
    (by rw [World.frozen?_alloc_old _ _ t (by simp; omega), World.frozen?_alloc_old _ _ t (by simp; omega), World.frozen?_alloc_old _ _ t (by simp; omega), World.frozen?_alloc_old _ _ t (Nat.ne_of_lt htl)]; exact hf0)
  go_enter Tryz.func49, Tryz.ntmps49
  go_wp2
  refine wp_loop_rounds 1 ?_
  rw [rounds_succ]
  go_wp2
  go_ret
  exact ⟨rfl, rfl⟩
end Go.Proofs.YtciljbmodhjpiaaGreatDoor.As
