/- StepNames: calls, as the abstract machine reckons them, part 6. -/
import Derived.Test.YtciljbmodhjpiaaGreatDoorSV
namespace Go.Proofs.YtciljbmodhjpiaaGreatDoor
open Go.Ax
theorem runS29 : pureOk 1000 (eS29).2.2 (call Tryz.prog (cx []) 20000 (eS29).1 (eS29).2.1 h0) = true := by kernel_rfl
end Go.Proofs.YtciljbmodhjpiaaGreatDoor
