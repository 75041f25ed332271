/- StepNames: calls, as the abstract machine reckons them, part 23. -/
import Derived.Test.YtciljbmodhjpiaaGreatDoorSV
namespace Go.Proofs.YtciljbmodhjpiaaGreatDoor
open Go.Ax
theorem runS139 : pureOk 1000 (eS139).2.2 (call Tryz.prog (cx [eS2, eS128, eS129, eS138]) 20000 (eS139).1 (eS139).2.1 h0) = true := by kernel_rfl
theorem runS140 : pureOk 1000 (eS140).2.2 (call Tryz.prog (cx [eS139]) 20000 (eS140).1 (eS140).2.1 h0) = true := by kernel_rfl
theorem runS141 : pureOk 1000 (eS141).2.2 (call Tryz.prog (cx []) 20000 (eS141).1 (eS141).2.1 h0) = true := by kernel_rfl
end Go.Proofs.YtciljbmodhjpiaaGreatDoor
