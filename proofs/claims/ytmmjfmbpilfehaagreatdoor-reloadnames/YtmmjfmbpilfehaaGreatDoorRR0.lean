/- ReloadNames: calls, as the abstract machine reckons them, part 0. -/
import Derived.Test.YtmmjfmbpilfehaaGreatDoorRV
namespace Go.Proofs.YtmmjfmbpilfehaaGreatDoor
open Go.Ax
theorem runR0 : pureOk 1000 (eR0).2.2 (call Tryz.prog (cx []) 20000 (eR0).1 (eR0).2.1 h0) = true := by kernel_rfl
theorem runR1 : pureOk 1000 (eR1).2.2 (call Tryz.prog (cx []) 20000 (eR1).1 (eR1).2.1 h0) = true := by kernel_rfl
theorem runR2 : pureOk 1000 (eR2).2.2 (call Tryz.prog (cx [eR1]) 20000 (eR2).1 (eR2).2.1 h0) = true := by kernel_rfl
theorem runR3 : pureOk 1000 (eR3).2.2 (call Tryz.prog (cx [eR2]) 20000 (eR3).1 (eR3).2.1 h0) = true := by kernel_rfl
theorem runR4 : pureOk 1000 (eR4).2.2 (call Tryz.prog (cx []) 20000 (eR4).1 (eR4).2.1 h0) = true := by kernel_rfl
end Go.Proofs.YtmmjfmbpilfehaaGreatDoor
