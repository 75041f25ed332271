/- ReloadNames: calls, as the abstract machine reckons them, part 36. -/
import Derived.Test.YtmmjfmbpilfehaaGreatDoorRV
namespace Go.Proofs.YtmmjfmbpilfehaaGreatDoor
open Go.Ax
theorem runR409 : pureOk 1000 (eR409).2.2 (call Tryz.prog (cx [eR11, eR17, eR18, eR25, eR38, eR52, eR214, eR215, eR216, eR389]) 20000 (eR409).1 (eR409).2.1 h0) = true := by kernel_rfl
end Go.Proofs.YtmmjfmbpilfehaaGreatDoor
