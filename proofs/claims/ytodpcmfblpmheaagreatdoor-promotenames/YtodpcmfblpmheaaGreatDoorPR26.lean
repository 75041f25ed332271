/- PromoteNames: calls, as the abstract machine reckons them, part 26. -/
import Derived.Test.YtodpcmfblpmheaaGreatDoorPV
namespace Go.Proofs.YtodpcmfblpmheaaGreatDoor
open Go.Ax
theorem runP330 : pureOk 1000 (eP330).2.2 (call Tryz.prog (cx []) 20000 (eP330).1 (eP330).2.1 h0) = true := by kernel_rfl
theorem runP331 : pureOk 1000 (eP331).2.2 (call Tryz.prog (cx [eP2]) 20000 (eP331).1 (eP331).2.1 h0) = true := by kernel_rfl
end Go.Proofs.YtodpcmfblpmheaaGreatDoor
