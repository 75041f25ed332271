/- PromoteNames: calls, as the abstract machine reckons them, part 10. -/
import Derived.Test.YtodpcmfblpmheaaGreatDoorPV
namespace Go.Proofs.YtodpcmfblpmheaaGreatDoor
open Go.Ax
theorem runP135 : pureOk 1000 (eP135).2.2 (call Tryz.prog (cx []) 20000 (eP135).1 (eP135).2.1 h0) = true := by kernel_rfl
theorem runP136 : pureOk 1000 (eP136).2.2 (call Tryz.prog (cx []) 20000 (eP136).1 (eP136).2.1 h0) = true := by kernel_rfl
theorem runP137 : pureOk 1000 (eP137).2.2 (call Tryz.prog (cx []) 20000 (eP137).1 (eP137).2.1 h0) = true := by kernel_rfl
theorem runP138 : pureOk 1000 (eP138).2.2 (call Tryz.prog (cx []) 20000 (eP138).1 (eP138).2.1 h0) = true := by kernel_rfl
end Go.Proofs.YtodpcmfblpmheaaGreatDoor
