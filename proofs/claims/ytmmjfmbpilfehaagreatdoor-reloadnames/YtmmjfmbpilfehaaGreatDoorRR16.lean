/- ReloadNames: calls, as the abstract machine reckons them, part 16. -/
import Derived.Test.YtmmjfmbpilfehaaGreatDoorRV
namespace Go.Proofs.YtmmjfmbpilfehaaGreatDoor
open Go.Ax
theorem runR218 : pureOk 1000 (eR218).2.2 (call Tryz.prog (cx []) 20000 (eR218).1 (eR218).2.1 h0) = true := by kernel_rfl
theorem runR219 : pureOk 1000 (eR219).2.2 (call Tryz.prog (cx []) 20000 (eR219).1 (eR219).2.1 h0) = true := by kernel_rfl
theorem runR220 : pureOk 1000 (eR220).2.2 (call Tryz.prog (cx [eR219]) 20000 (eR220).1 (eR220).2.1 h0) = true := by kernel_rfl
end Go.Proofs.YtmmjfmbpilfehaaGreatDoor
