/- PromoteNames: calls, as the abstract machine reckons them, part 2. -/
import Derived.Test.YtodpcmfblpmheaaGreatDoorPV
namespace Go.Proofs.YtodpcmfblpmheaaGreatDoor
open Go.Ax
theorem runP31 : pureOk 1000 (eP31).2.2 (call Tryz.prog (cx [eP0, eP3, eP6, eP9, eP10, eP13, eP14, eP15, eP16, eP17, eP18, eP19, eP20, eP21, eP24, eP25, eP26, eP27, eP28, eP29, eP30]) 20000 (eP31).1 (eP31).2.1 h0) = true := by kernel_rfl
theorem runP32 : pureOk 1000 (eP32).2.2 (call Tryz.prog (cx []) 20000 (eP32).1 (eP32).2.1 h0) = true := by kernel_rfl
theorem runP33 : pureOk 1000 (eP33).2.2 (call Tryz.prog (cx [eP32]) 20000 (eP33).1 (eP33).2.1 h0) = true := by kernel_rfl
theorem runP34 : pureOk 1000 (eP34).2.2 (call Tryz.prog (cx [eP33]) 20000 (eP34).1 (eP34).2.1 h0) = true := by kernel_rfl
theorem runP35 : pureOk 1000 (eP35).2.2 (call Tryz.prog (cx [eP34]) 20000 (eP35).1 (eP35).2.1 h0) = true := by kernel_rfl
theorem runP36 : pureOk 1000 (eP36).2.2 (call Tryz.prog (cx [eP34]) 20000 (eP36).1 (eP36).2.1 h0) = true := by kernel_rfl
theorem runP37 : pureOk 1000 (eP37).2.2 (call Tryz.prog (cx [eP35, eP36]) 20000 (eP37).1 (eP37).2.1 h0) = true := by kernel_rfl
theorem runP38 : pureOk 1000 (eP38).2.2 (call Tryz.prog (cx [eP34]) 20000 (eP38).1 (eP38).2.1 h0) = true := by kernel_rfl
theorem runP39 : pureOk 1000 (eP39).2.2 (call Tryz.prog (cx []) 20000 (eP39).1 (eP39).2.1 h0) = true := by kernel_rfl
theorem runP40 : pureOk 1000 (eP40).2.2 (call Tryz.prog (cx []) 20000 (eP40).1 (eP40).2.1 h0) = true := by kernel_rfl
theorem runP41 : pureOk 1000 (eP41).2.2 (call Tryz.prog (cx []) 20000 (eP41).1 (eP41).2.1 h0) = true := by kernel_rfl
end Go.Proofs.YtodpcmfblpmheaaGreatDoor
