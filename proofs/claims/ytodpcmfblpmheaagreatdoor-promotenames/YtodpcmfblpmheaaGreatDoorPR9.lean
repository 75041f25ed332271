/- PromoteNames: calls, as the abstract machine reckons them, part 9. -/
import Derived.Test.YtodpcmfblpmheaaGreatDoorPV
namespace Go.Proofs.YtodpcmfblpmheaaGreatDoor
open Go.Ax
theorem runP128 : pureOk 1000 (eP128).2.2 (call Tryz.prog (cx [eP17, eP20, eP21, eP25, eP41, eP42, eP115, eP116, eP120, eP121, eP122, eP123, eP124, eP125, eP126, eP127]) 20000 (eP128).1 (eP128).2.1 h0) = true := by kernel_rfl
theorem runP129 : pureOk 1000 (eP129).2.2 (call Tryz.prog (cx []) 20000 (eP129).1 (eP129).2.1 h0) = true := by kernel_rfl
theorem runP130 : pureOk 1000 (eP130).2.2 (call Tryz.prog (cx [eP129]) 20000 (eP130).1 (eP130).2.1 h0) = true := by kernel_rfl
theorem runP131 : pureOk 1000 (eP131).2.2 (call Tryz.prog (cx [eP130]) 20000 (eP131).1 (eP131).2.1 h0) = true := by kernel_rfl
theorem runP132 : pureOk 1000 (eP132).2.2 (call Tryz.prog (cx [eP131]) 20000 (eP132).1 (eP132).2.1 h0) = true := by kernel_rfl
theorem runP133 : pureOk 1000 (eP133).2.2 (call Tryz.prog (cx [eP132]) 20000 (eP133).1 (eP133).2.1 h0) = true := by kernel_rfl
theorem runP134 : pureOk 1000 (eP134).2.2 (call Tryz.prog (cx [eP133]) 20000 (eP134).1 (eP134).2.1 h0) = true := by kernel_rfl
end Go.Proofs.YtodpcmfblpmheaaGreatDoor
