/- StepNames: calls, as the abstract machine reckons them, part 9. -/
import Derived.Test.YtciljbmodhjpiaaGreatDoorSV
namespace Go.Proofs.YtciljbmodhjpiaaGreatDoor
open Go.Ax
theorem runS43 : pureOk 1000 (eS43).2.2 (call Tryz.prog (cx []) 20000 (eS43).1 (eS43).2.1 h0) = true := by kernel_rfl
end Go.Proofs.YtciljbmodhjpiaaGreatDoor
