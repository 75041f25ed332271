/- PromoteNames: calls, as the abstract machine reckons them, part 18. -/
import Derived.Test.YtodpcmfblpmheaaGreatDoorPV
namespace Go.Proofs.YtodpcmfblpmheaaGreatDoor
open Go.Ax
theorem runP207 : pureOk 1000 (eP207).2.2 (call Tryz.prog (cx [eP205]) 20000 (eP207).1 (eP207).2.1 h0) = true := by kernel_rfl
theorem runP208 : pureOk 1000 (eP208).2.2 (call Tryz.prog (cx [eP206, eP207]) 20000 (eP208).1 (eP208).2.1 h0) = true := by kernel_rfl
theorem runP209 : pureOk 1000 (eP209).2.2 (call Tryz.prog (cx [eP205]) 20000 (eP209).1 (eP209).2.1 h0) = true := by kernel_rfl
theorem runP210 : pureOk 1000 (eP210).2.2 (call Tryz.prog (cx []) 20000 (eP210).1 (eP210).2.1 h0) = true := by kernel_rfl
theorem runP211 : pureOk 1000 (eP211).2.2 (call Tryz.prog (cx []) 20000 (eP211).1 (eP211).2.1 h0) = true := by kernel_rfl
theorem runP212 : pureOk 1000 (eP212).2.2 (call Tryz.prog (cx [eP205]) 20000 (eP212).1 (eP212).2.1 h0) = true := by kernel_rfl
theorem runP213 : pureOk 1000 (eP213).2.2 (call Tryz.prog (cx []) 20000 (eP213).1 (eP213).2.1 h0) = true := by kernel_rfl
theorem runP214 : pureOk 1000 (eP214).2.2 (call Tryz.prog (cx []) 20000 (eP214).1 (eP214).2.1 h0) = true := by kernel_rfl
theorem runP215 : pureOk 1000 (eP215).2.2 (call Tryz.prog (cx []) 20000 (eP215).1 (eP215).2.1 h0) = true := by kernel_rfl
theorem runP216 : pureOk 1000 (eP216).2.2 (call Tryz.prog (cx [eP205]) 20000 (eP216).1 (eP216).2.1 h0) = true := by kernel_rfl
theorem runP217 : pureOk 1000 (eP217).2.2 (call Tryz.prog (cx []) 20000 (eP217).1 (eP217).2.1 h0) = true := by kernel_rfl
theorem runP218 : pureOk 1000 (eP218).2.2 (call Tryz.prog (cx []) 20000 (eP218).1 (eP218).2.1 h0) = true := by kernel_rfl
theorem runP219 : pureOk 1000 (eP219).2.2 (call Tryz.prog (cx [eP205]) 20000 (eP219).1 (eP219).2.1 h0) = true := by kernel_rfl
theorem runP220 : pureOk 1000 (eP220).2.2 (call Tryz.prog (cx [eP204]) 20000 (eP220).1 (eP220).2.1 h0) = true := by kernel_rfl
theorem runP221 : pureOk 1000 (eP221).2.2 (call Tryz.prog (cx [eP220]) 20000 (eP221).1 (eP221).2.1 h0) = true := by kernel_rfl
theorem runP222 : pureOk 1000 (eP222).2.2 (call Tryz.prog (cx [eP220]) 20000 (eP222).1 (eP222).2.1 h0) = true := by kernel_rfl
theorem runP223 : pureOk 1000 (eP223).2.2 (call Tryz.prog (cx [eP221, eP222]) 20000 (eP223).1 (eP223).2.1 h0) = true := by kernel_rfl
theorem runP224 : pureOk 1000 (eP224).2.2 (call Tryz.prog (cx [eP220]) 20000 (eP224).1 (eP224).2.1 h0) = true := by kernel_rfl
theorem runP225 : pureOk 1000 (eP225).2.2 (call Tryz.prog (cx [eP14, eP20, eP21, eP40, eP51, eP136, eP147, eP188, eP199, eP204, eP206, eP208, eP209, eP210, eP211, eP212, eP213, eP214, eP215, eP216, eP217, eP218, eP219, eP221, eP223, eP224]) 20000 (eP225).1 (eP225).2.1 h0) = true := by kernel_rfl
theorem runP226 : pureOk 1000 (eP226).2.2 (call Tryz.prog (cx [eP225]) 20000 (eP226).1 (eP226).2.1 h0) = true := by kernel_rfl
end Go.Proofs.YtodpcmfblpmheaaGreatDoor
