/- PromoteNames: calls, as the abstract machine reckons them, part 13. -/
import Derived.Test.YtodpcmfblpmheaaGreatDoorPV
namespace Go.Proofs.YtodpcmfblpmheaaGreatDoor
open Go.Ax
theorem runP176 : pureOk 1000 (eP176).2.2 (call Tryz.prog (cx []) 20000 (eP176).1 (eP176).2.1 h0) = true := by kernel_rfl
theorem runP177 : pureOk 1000 (eP177).2.2 (call Tryz.prog (cx [eP59, eP104, eP106, eP141, eP148, eP154, eP168, eP173, eP174, eP175, eP176]) 20000 (eP177).1 (eP177).2.1 h0) = true := by kernel_rfl
theorem runP178 : pureOk 1000 (eP178).2.2 (call Tryz.prog (cx [eP171, eP177]) 20000 (eP178).1 (eP178).2.1 h0) = true := by kernel_rfl
theorem runP179 : pureOk 1000 (eP179).2.2 (call Tryz.prog (cx [eP59, eP141, eP148, eP154]) 20000 (eP179).1 (eP179).2.1 h0) = true := by kernel_rfl
theorem runP180 : pureOk 1000 (eP180).2.2 (call Tryz.prog (cx [eP59, eP141, eP148, eP154]) 20000 (eP180).1 (eP180).2.1 h0) = true := by kernel_rfl
theorem runP181 : pureOk 1000 (eP181).2.2 (call Tryz.prog (cx [eP18, eP21, eP32, eP41, eP51, eP59, eP106, eP113, eP116, eP117, eP137, eP146, eP147, eP153, eP154, eP168, eP178, eP179, eP180]) 20000 (eP181).1 (eP181).2.1 h0) = true := by kernel_rfl
theorem runP182 : pureOk 1000 (eP182).2.2 (call Tryz.prog (cx [eP32]) 20000 (eP182).1 (eP182).2.1 h0) = true := by kernel_rfl
theorem runP183 : pureOk 1000 (eP183).2.2 (call Tryz.prog (cx []) 20000 (eP183).1 (eP183).2.1 h0) = true := by kernel_rfl
end Go.Proofs.YtodpcmfblpmheaaGreatDoor
