/- PromoteNames: calls, as the abstract machine reckons them, part 24. -/
import Derived.Test.YtodpcmfblpmheaaGreatDoorPV
namespace Go.Proofs.YtodpcmfblpmheaaGreatDoor
open Go.Ax
theorem runP323 : pureOk 1000 (eP323).2.2 (call Tryz.prog (cx [eP15, eP21, eP32, eP40, eP51, eP59, eP113, eP116, eP117, eP137, eP147, eP189, eP200, eP210, eP211, eP215, eP217, eP218, eP225, eP226, eP250, eP309, eP321, eP322]) 20000 (eP323).1 (eP323).2.1 h0) = true := by kernel_rfl
theorem runP324 : pureOk 1000 (eP324).2.2 (call Tryz.prog (cx [eP32]) 20000 (eP324).1 (eP324).2.1 h0) = true := by kernel_rfl
theorem runP325 : pureOk 1000 (eP325).2.2 (call Tryz.prog (cx []) 20000 (eP325).1 (eP325).2.1 h0) = true := by kernel_rfl
theorem runP326 : pureOk 1000 (eP326).2.2 (call Tryz.prog (cx []) 20000 (eP326).1 (eP326).2.1 h0) = true := by kernel_rfl
theorem runP327 : pureOk 1000 (eP327).2.2 (call Tryz.prog (cx []) 20000 (eP327).1 (eP327).2.1 h0) = true := by kernel_rfl
theorem runP328 : pureOk 1000 (eP328).2.2 (call Tryz.prog (cx []) 20000 (eP328).1 (eP328).2.1 h0) = true := by kernel_rfl
end Go.Proofs.YtodpcmfblpmheaaGreatDoor
