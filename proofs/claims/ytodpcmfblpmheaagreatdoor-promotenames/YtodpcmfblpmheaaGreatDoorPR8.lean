/- PromoteNames: calls, as the abstract machine reckons them, part 8. -/
import Derived.Test.YtodpcmfblpmheaaGreatDoorPV
namespace Go.Proofs.YtodpcmfblpmheaaGreatDoor
open Go.Ax
theorem runP119 : pureOk 1000 (eP119).2.2 (call Tryz.prog (cx [eP18, eP21, eP26, eP32, eP41, eP42, eP45, eP51, eP52, eP53, eP56, eP59, eP96, eP106, eP110, eP112, eP113, eP114, eP115, eP116, eP117, eP118]) 20000 (eP119).1 (eP119).2.1 h0) = true := by kernel_rfl
theorem runP120 : pureOk 1000 (eP120).2.2 (call Tryz.prog (cx [eP32]) 20000 (eP120).1 (eP120).2.1 h0) = true := by kernel_rfl
theorem runP121 : pureOk 1000 (eP121).2.2 (call Tryz.prog (cx []) 20000 (eP121).1 (eP121).2.1 h0) = true := by kernel_rfl
theorem runP122 : pureOk 1000 (eP122).2.2 (call Tryz.prog (cx []) 20000 (eP122).1 (eP122).2.1 h0) = true := by kernel_rfl
theorem runP123 : pureOk 1000 (eP123).2.2 (call Tryz.prog (cx []) 20000 (eP123).1 (eP123).2.1 h0) = true := by kernel_rfl
theorem runP124 : pureOk 1000 (eP124).2.2 (call Tryz.prog (cx []) 20000 (eP124).1 (eP124).2.1 h0) = true := by kernel_rfl
theorem runP125 : pureOk 1000 (eP125).2.2 (call Tryz.prog (cx []) 20000 (eP125).1 (eP125).2.1 h0) = true := by kernel_rfl
theorem runP126 : pureOk 1000 (eP126).2.2 (call Tryz.prog (cx []) 20000 (eP126).1 (eP126).2.1 h0) = true := by kernel_rfl
theorem runP127 : pureOk 1000 (eP127).2.2 (call Tryz.prog (cx []) 20000 (eP127).1 (eP127).2.1 h0) = true := by kernel_rfl
end Go.Proofs.YtodpcmfblpmheaaGreatDoor
