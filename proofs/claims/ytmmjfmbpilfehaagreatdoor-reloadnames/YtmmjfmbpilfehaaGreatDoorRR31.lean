/- ReloadNames: calls, as the abstract machine reckons them, part 31. -/
import Derived.Test.YtmmjfmbpilfehaaGreatDoorRV
namespace Go.Proofs.YtmmjfmbpilfehaaGreatDoor
open Go.Ax
theorem runR382 : pureOkN 1000 (eR382).2.2 (callAll Tryz.prog (cx [eR59, eR64, eR65, eR66, eR69, eR118, eR119, eR124, eR245, eR248, eR249, eR250, eR251, eR252, eR253, eR254, eR255, eR256, eR257, eR258, eR259, eR260, eR362, eR367, eR372, eR378, eR379, eR380, eR381]) nkR 20000 (eR382).1 (eR382).2.1) = true := by kernel_rfl
theorem runR383 : pureOk 1000 (eR383).2.2 (call Tryz.prog (cx [eR382]) 20000 (eR383).1 (eR383).2.1 h0) = true := by kernel_rfl
theorem runR384 : pureOk 1000 (eR384).2.2 (call Tryz.prog (cx [eR111, eR355, eR356, eR357, eR360, eR383]) 20000 (eR384).1 (eR384).2.1 h0) = true := by kernel_rfl
end Go.Proofs.YtmmjfmbpilfehaaGreatDoor
