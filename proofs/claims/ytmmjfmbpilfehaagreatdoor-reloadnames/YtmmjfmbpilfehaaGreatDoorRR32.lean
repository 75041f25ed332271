/- ReloadNames: calls, as the abstract machine reckons them, part 32. -/
import Derived.Test.YtmmjfmbpilfehaaGreatDoorRV
namespace Go.Proofs.YtmmjfmbpilfehaaGreatDoor
open Go.Ax
theorem runR385 : pureOk 1000 (eR385).2.2 (call Tryz.prog (cx [eR11, eR17, eR18, eR19, eR25, eR27, eR38, eR45, eR52, eR214, eR215, eR216, eR324, eR353, eR361]) 20000 (eR385).1 (eR385).2.1 h0) = true := by kernel_rfl
end Go.Proofs.YtmmjfmbpilfehaaGreatDoor
