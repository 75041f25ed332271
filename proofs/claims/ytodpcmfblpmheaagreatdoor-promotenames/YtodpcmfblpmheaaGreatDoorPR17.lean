/- PromoteNames: calls, as the abstract machine reckons them, part 17. -/
import Derived.Test.YtodpcmfblpmheaaGreatDoorPV
namespace Go.Proofs.YtodpcmfblpmheaaGreatDoor
open Go.Ax
theorem runP203 : pureOk 1000 (eP203).2.2 (call Tryz.prog (cx [eP3, eP6, eP7, eP9, eP10, eP14, eP15, eP16, eP19, eP20, eP21, eP24, eP30, eP136, eP137, eP185, eP186, eP187, eP188, eP189, eP190, eP191, eP194, eP197, eP198, eP199, eP200, eP202]) 20000 (eP203).1 (eP203).2.1 h0) = true := by kernel_rfl
theorem runP204 : pureOk 1000 (eP204).2.2 (call Tryz.prog (cx [eP32]) 20000 (eP204).1 (eP204).2.1 h0) = true := by kernel_rfl
theorem runP205 : pureOk 1000 (eP205).2.2 (call Tryz.prog (cx [eP204]) 20000 (eP205).1 (eP205).2.1 h0) = true := by kernel_rfl
theorem runP206 : pureOk 1000 (eP206).2.2 (call Tryz.prog (cx [eP205]) 20000 (eP206).1 (eP206).2.1 h0) = true := by kernel_rfl
end Go.Proofs.YtodpcmfblpmheaaGreatDoor
