/- ReloadNames: calls, as the abstract machine reckons them, part 23. -/
import Derived.Test.YtmmjfmbpilfehaaGreatDoorRV
namespace Go.Proofs.YtmmjfmbpilfehaaGreatDoor
open Go.Ax
theorem runR326 : pureOk 1000 (eR326).2.2 (call Tryz.prog (cx [eR11, eR19, eR25, eR38, eR52, eR148, eR186, eR214, eR215, eR216, eR237, eR238, eR239, eR293, eR324, eR325]) 20000 (eR326).1 (eR326).2.1 h0) = true := by kernel_rfl
end Go.Proofs.YtmmjfmbpilfehaaGreatDoor
