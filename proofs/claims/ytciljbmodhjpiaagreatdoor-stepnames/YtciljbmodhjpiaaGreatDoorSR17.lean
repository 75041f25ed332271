/- StepNames: calls, as the abstract machine reckons them, part 17. -/
import Derived.Test.YtciljbmodhjpiaaGreatDoorSV
namespace Go.Proofs.YtciljbmodhjpiaaGreatDoor
open Go.Ax
theorem runS99 : pureOk 1000 (eS99).2.2 (call Tryz.prog (cx []) 20000 (eS99).1 (eS99).2.1 h0) = true := by kernel_rfl
end Go.Proofs.YtciljbmodhjpiaaGreatDoor
