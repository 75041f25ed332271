/- StepNames: calls, as the abstract machine reckons them, part 25. -/
import Derived.Test.YtciljbmodhjpiaaGreatDoorSV
namespace Go.Proofs.YtciljbmodhjpiaaGreatDoor
open Go.Ax
theorem runS153 : pureOk 1000 (eS153).2.2 (call Tryz.prog (cx [eS142, eS143, eS152]) 20000 (eS153).1 (eS153).2.1 h0) = true := by kernel_rfl
theorem runS154 : pureOk 1000 (eS154).2.2 (call Tryz.prog (cx [eS153]) 20000 (eS154).1 (eS154).2.1 h0) = true := by kernel_rfl
theorem runS155 : pureOk 1000 (eS155).2.2 (call Tryz.prog (cx []) 20000 (eS155).1 (eS155).2.1 h0) = true := by kernel_rfl
end Go.Proofs.YtciljbmodhjpiaaGreatDoor
