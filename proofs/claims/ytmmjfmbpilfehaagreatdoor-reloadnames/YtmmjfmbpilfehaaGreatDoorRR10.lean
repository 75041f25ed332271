/- ReloadNames: calls, as the abstract machine reckons them, part 10. -/
import Derived.Test.YtmmjfmbpilfehaaGreatDoorRV
namespace Go.Proofs.YtmmjfmbpilfehaaGreatDoor
open Go.Ax
theorem runR136 : pureOk 1000 (eR136).2.2 (call Tryz.prog (cx [eR59, eR94, eR99, eR104, eR112]) 20000 (eR136).1 (eR136).2.1 h0) = true := by kernel_rfl
theorem runR137 : pureOk 1000 (eR137).2.2 (call Tryz.prog (cx []) 20000 (eR137).1 (eR137).2.1 h0) = true := by kernel_rfl
theorem runR138 : pureOk 1000 (eR138).2.2 (call Tryz.prog (cx [eR137]) 20000 (eR138).1 (eR138).2.1 h0) = true := by kernel_rfl
theorem runR139 : pureOk 1000 (eR139).2.2 (call Tryz.prog (cx [eR84, eR99, eR111, eR135, eR136, eR138]) 20000 (eR139).1 (eR139).2.1 h0) = true := by kernel_rfl
theorem runR140 : pureOk 1000 (eR140).2.2 (call Tryz.prog (cx [eR93]) 20000 (eR140).1 (eR140).2.1 h0) = true := by kernel_rfl
theorem runR141 : pureOk 1000 (eR141).2.2 (call Tryz.prog (cx [eR84, eR99, eR111, eR135, eR136, eR138, eR140]) 20000 (eR141).1 (eR141).2.1 h0) = true := by kernel_rfl
theorem runR142 : pureOk 1000 (eR142).2.2 (call Tryz.prog (cx []) 20000 (eR142).1 (eR142).2.1 h0) = true := by kernel_rfl
theorem runR143 : pureOk 1000 (eR143).2.2 (call Tryz.prog (cx [eR142]) 20000 (eR143).1 (eR143).2.1 h0) = true := by kernel_rfl
theorem runR144 : pureOk 1000 (eR144).2.2 (call Tryz.prog (cx [eR143]) 20000 (eR144).1 (eR144).2.1 h0) = true := by kernel_rfl
theorem runR145 : pureOk 1000 (eR145).2.2 (call Tryz.prog (cx [eR144]) 20000 (eR145).1 (eR145).2.1 h0) = true := by kernel_rfl
end Go.Proofs.YtmmjfmbpilfehaaGreatDoor
