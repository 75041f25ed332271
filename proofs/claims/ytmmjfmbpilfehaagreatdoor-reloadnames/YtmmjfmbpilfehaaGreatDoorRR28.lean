/- ReloadNames: calls, as the abstract machine reckons them, part 28. -/
import Derived.Test.YtmmjfmbpilfehaaGreatDoorRV
namespace Go.Proofs.YtmmjfmbpilfehaaGreatDoor
open Go.Ax
theorem runR354 : pureOk 1000 (eR354).2.2 (call Tryz.prog (cx [eR11, eR17, eR18, eR19, eR25, eR27, eR32, eR38, eR45, eR52, eR214, eR215, eR216, eR324, eR352, eR353]) 20000 (eR354).1 (eR354).2.1 h0) = true := by kernel_rfl
theorem runR355 : pureOk 1000 (eR355).2.2 (call Tryz.prog (cx [eR165]) 20000 (eR355).1 (eR355).2.1 h0) = true := by kernel_rfl
theorem runR356 : pureOk 1000 (eR356).2.2 (call Tryz.prog (cx [eR84, eR135, eR136, eR138]) 20000 (eR356).1 (eR356).2.1 h0) = true := by kernel_rfl
end Go.Proofs.YtmmjfmbpilfehaaGreatDoor
