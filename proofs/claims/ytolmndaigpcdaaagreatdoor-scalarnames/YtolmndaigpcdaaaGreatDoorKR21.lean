/- ScalarNames: calls, as the abstract machine reckons them, part 21. -/
import Derived.Test.YtolmndaigpcdaaaGreatDoorKV
namespace Go.Proofs.YtolmndaigpcdaaaGreatDoor
open Go.Ax
theorem runK206 : pureOk 1000 (eK206).2.2 (call Tryz.prog (cx [eK22, eK31, eK33, eK191, eK201, eK202, eK204, eK205]) 20000 (eK206).1 (eK206).2.1 h0) = true := by kernel_rfl
theorem runK207 : pureOk 1000 (eK207).2.2 (call Tryz.prog (cx [eK206]) 20000 (eK207).1 (eK207).2.1 h0) = true := by kernel_rfl
theorem runK208 : pureOk 1000 (eK208).2.2 (call Tryz.prog (cx [eK201]) 20000 (eK208).1 (eK208).2.1 h0) = true := by kernel_rfl
theorem runK209 : pureOk 1000 (eK209).2.2 (call Tryz.prog (cx [eK202, eK203, eK208]) 20000 (eK209).1 (eK209).2.1 h0) = true := by kernel_rfl
theorem runK210 : pureOk 1000 (eK210).2.2 (call Tryz.prog (cx [eK14, eK16, eK18, eK22, eK201]) 20000 (eK210).1 (eK210).2.1 h0) = true := by kernel_rfl
theorem runK211 : pureOk 1000 (eK211).2.2 (call Tryz.prog (cx [eK25]) 20000 (eK211).1 (eK211).2.1 h0) = true := by kernel_rfl
theorem runK212 : pureOk 1000 (eK212).2.2 (call Tryz.prog (cx [eK16, eK191, eK211]) 20000 (eK212).1 (eK212).2.1 h0) = true := by kernel_rfl
theorem runK213 : pureOk 1000 (eK213).2.2 (call Tryz.prog (cx [eK25]) 20000 (eK213).1 (eK213).2.1 h0) = true := by kernel_rfl
theorem runK214 : pureOk 1000 (eK214).2.2 (call Tryz.prog (cx [eK213]) 20000 (eK214).1 (eK214).2.1 h0) = true := by kernel_rfl
theorem runK215 : pureOk 1000 (eK215).2.2 (call Tryz.prog (cx [eK213]) 20000 (eK215).1 (eK215).2.1 h0) = true := by kernel_rfl
theorem runK216 : pureOk 1000 (eK216).2.2 (call Tryz.prog (cx [eK214, eK215]) 20000 (eK216).1 (eK216).2.1 h0) = true := by kernel_rfl
theorem runK217 : pureOk 1000 (eK217).2.2 (call Tryz.prog (cx [eK213]) 20000 (eK217).1 (eK217).2.1 h0) = true := by kernel_rfl
theorem runK218 : pureOk 1000 (eK218).2.2 (call Tryz.prog (cx [eK191, eK213, eK214, eK216, eK217]) 20000 (eK218).1 (eK218).2.1 h0) = true := by kernel_rfl
theorem runK219 : pureOk 1000 (eK219).2.2 (call Tryz.prog (cx [eK218]) 20000 (eK219).1 (eK219).2.1 h0) = true := by kernel_rfl
end Go.Proofs.YtolmndaigpcdaaaGreatDoor
