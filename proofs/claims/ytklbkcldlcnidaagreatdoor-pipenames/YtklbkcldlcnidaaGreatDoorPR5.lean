/- PipeNames: calls, as the abstract machine reckons them, part 5. -/
import Derived.Test.YtklbkcldlcnidaaGreatDoorPV
namespace Go.Proofs.YtklbkcldlcnidaaGreatDoor
open Go.Ax
theorem runP127 : pureOk 1000 (eP127).2.2 (call Tryz.prog (cx [eP8, eP9, eP27, eP28, eP29, eP30, eP31, eP32, eP34, eP41, eP42, eP43, eP44, eP45, eP46, eP52, eP54, eP91, eP93, eP100, eP115, eP119, eP121, eP122, eP124, eP125, eP126]) 20000 (eP127).1 (eP127).2.1 h0) = true := by kernel_rfl
end Go.Proofs.YtklbkcldlcnidaaGreatDoor
