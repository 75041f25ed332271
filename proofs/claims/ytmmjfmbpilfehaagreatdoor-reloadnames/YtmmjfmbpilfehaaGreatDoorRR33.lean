/- ReloadNames: calls, as the abstract machine reckons them, part 33. -/
import Derived.Test.YtmmjfmbpilfehaaGreatDoorRV
namespace Go.Proofs.YtmmjfmbpilfehaaGreatDoor
open Go.Ax
theorem runR386 : pureOk 1000 (eR386).2.2 (call Tryz.prog (cx []) 20000 (eR386).1 (eR386).2.1 h0) = true := by kernel_rfl
theorem runR387 : pureOk 1000 (eR387).2.2 (call Tryz.prog (cx [eR5]) 20000 (eR387).1 (eR387).2.1 h0) = true := by kernel_rfl
end Go.Proofs.YtmmjfmbpilfehaaGreatDoor
