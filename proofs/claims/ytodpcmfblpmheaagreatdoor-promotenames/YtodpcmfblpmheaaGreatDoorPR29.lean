/- PromoteNames: calls, as the abstract machine reckons them, part 29. -/
import Derived.Test.YtodpcmfblpmheaaGreatDoorPV
namespace Go.Proofs.YtodpcmfblpmheaaGreatDoor
open Go.Ax
theorem runP368 : pureOk 1000 (eP368).2.2 (call Tryz.prog (cx [eP59, eP334, eP340, eP346]) 20000 (eP368).1 (eP368).2.1 h0) = true := by kernel_rfl
theorem runP369 : pureOk 1000 (eP369).2.2 (call Tryz.prog (cx [eP15, eP21, eP26, eP32, eP40, eP51, eP59, eP113, eP339, eP345, eP346, eP358, eP366, eP367, eP368]) 20000 (eP369).1 (eP369).2.1 h0) = true := by kernel_rfl
end Go.Proofs.YtodpcmfblpmheaaGreatDoor
