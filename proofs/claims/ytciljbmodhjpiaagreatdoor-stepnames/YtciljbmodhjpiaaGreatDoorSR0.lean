/- StepNames: calls, as the abstract machine reckons them, part 0. -/
import Derived.Test.YtciljbmodhjpiaaGreatDoorSV
namespace Go.Proofs.YtciljbmodhjpiaaGreatDoor
open Go.Ax
theorem runS0 : pureOk 1000 (eS0).2.2 (call Tryz.prog (cx []) 20000 (eS0).1 (eS0).2.1 h0) = true := by kernel_rfl
end Go.Proofs.YtciljbmodhjpiaaGreatDoor
