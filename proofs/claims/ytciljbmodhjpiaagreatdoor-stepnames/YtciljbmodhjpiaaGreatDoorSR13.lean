/- StepNames: calls, as the abstract machine reckons them, part 13. -/
import Derived.Test.YtciljbmodhjpiaaGreatDoorSV
namespace Go.Proofs.YtciljbmodhjpiaaGreatDoor
open Go.Ax
theorem runS69 : pureOk 1000 (eS69).2.2 (call Tryz.prog (cx [eS2, eS58, eS59, eS68]) 20000 (eS69).1 (eS69).2.1 h0) = true := by kernel_rfl
theorem runS70 : pureOk 1000 (eS70).2.2 (call Tryz.prog (cx [eS69]) 20000 (eS70).1 (eS70).2.1 h0) = true := by kernel_rfl
theorem runS71 : pureOk 1000 (eS71).2.2 (call Tryz.prog (cx []) 20000 (eS71).1 (eS71).2.1 h0) = true := by kernel_rfl
end Go.Proofs.YtciljbmodhjpiaaGreatDoor
