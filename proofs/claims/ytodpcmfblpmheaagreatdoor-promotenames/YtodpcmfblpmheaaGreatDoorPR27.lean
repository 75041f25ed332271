/- PromoteNames: calls, as the abstract machine reckons them, part 27. -/
import Derived.Test.YtodpcmfblpmheaaGreatDoorPV
namespace Go.Proofs.YtodpcmfblpmheaaGreatDoor
open Go.Ax
theorem runP332 : pureOk 1000 (eP332).2.2 (call Tryz.prog (cx [eP3, eP6, eP9, eP10, eP14, eP15, eP16, eP20, eP21, eP25, eP26, eP30, eP187, eP330, eP331]) 20000 (eP332).1 (eP332).2.1 h0) = true := by kernel_rfl
theorem runP333 : pureOk 1000 (eP333).2.2 (call Tryz.prog (cx [eP32]) 20000 (eP333).1 (eP333).2.1 h0) = true := by kernel_rfl
theorem runP334 : pureOk 1000 (eP334).2.2 (call Tryz.prog (cx [eP333]) 20000 (eP334).1 (eP334).2.1 h0) = true := by kernel_rfl
theorem runP335 : pureOk 1000 (eP335).2.2 (call Tryz.prog (cx [eP334]) 20000 (eP335).1 (eP335).2.1 h0) = true := by kernel_rfl
theorem runP336 : pureOk 1000 (eP336).2.2 (call Tryz.prog (cx [eP334]) 20000 (eP336).1 (eP336).2.1 h0) = true := by kernel_rfl
theorem runP337 : pureOk 1000 (eP337).2.2 (call Tryz.prog (cx [eP335, eP336]) 20000 (eP337).1 (eP337).2.1 h0) = true := by kernel_rfl
theorem runP338 : pureOk 1000 (eP338).2.2 (call Tryz.prog (cx [eP334]) 20000 (eP338).1 (eP338).2.1 h0) = true := by kernel_rfl
theorem runP339 : pureOk 1000 (eP339).2.2 (call Tryz.prog (cx []) 20000 (eP339).1 (eP339).2.1 h0) = true := by kernel_rfl
theorem runP340 : pureOk 1000 (eP340).2.2 (call Tryz.prog (cx [eP333]) 20000 (eP340).1 (eP340).2.1 h0) = true := by kernel_rfl
theorem runP341 : pureOk 1000 (eP341).2.2 (call Tryz.prog (cx [eP340]) 20000 (eP341).1 (eP341).2.1 h0) = true := by kernel_rfl
theorem runP342 : pureOk 1000 (eP342).2.2 (call Tryz.prog (cx [eP340]) 20000 (eP342).1 (eP342).2.1 h0) = true := by kernel_rfl
theorem runP343 : pureOk 1000 (eP343).2.2 (call Tryz.prog (cx [eP341, eP342]) 20000 (eP343).1 (eP343).2.1 h0) = true := by kernel_rfl
theorem runP344 : pureOk 1000 (eP344).2.2 (call Tryz.prog (cx [eP340]) 20000 (eP344).1 (eP344).2.1 h0) = true := by kernel_rfl
end Go.Proofs.YtodpcmfblpmheaaGreatDoor
