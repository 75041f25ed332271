/- ReloadNames: calls, as the abstract machine reckons them, part 11. -/
import Derived.Test.YtmmjfmbpilfehaaGreatDoorRV
namespace Go.Proofs.YtmmjfmbpilfehaaGreatDoor
open Go.Ax
theorem runR146 : pureOk 1000 (eR146).2.2 (call Tryz.prog (cx []) 20000 (eR146).1 (eR146).2.1 h0) = true := by kernel_rfl
theorem runR147 : pureOk 1000 (eR147).2.2 (call Tryz.prog (cx [eR14]) 20000 (eR147).1 (eR147).2.1 h0) = true := by kernel_rfl
theorem runR148 : pureOk 1000 (eR148).2.2 (call Tryz.prog (cx []) 20000 (eR148).1 (eR148).2.1 h0) = true := by kernel_rfl
theorem runR149 : pureOk 1000 (eR149).2.2 (call Tryz.prog (cx []) 20000 (eR149).1 (eR149).2.1 h0) = true := by kernel_rfl
end Go.Proofs.YtmmjfmbpilfehaaGreatDoor
