/- PromoteNames: calls, as the abstract machine reckons them, part 25. -/
import Derived.Test.YtodpcmfblpmheaaGreatDoorPV
namespace Go.Proofs.YtodpcmfblpmheaaGreatDoor
open Go.Ax
theorem runP329 : pureOk 1000 (eP329).2.2 (call Tryz.prog (cx [eP14, eP20, eP21, eP40, eP116, eP121, eP122, eP123, eP124, eP125, eP127, eP136, eP183, eP188, eP199, eP210, eP217, eP218, eP324, eP325, eP326, eP327, eP328]) 20000 (eP329).1 (eP329).2.1 h0) = true := by kernel_rfl
end Go.Proofs.YtodpcmfblpmheaaGreatDoor
