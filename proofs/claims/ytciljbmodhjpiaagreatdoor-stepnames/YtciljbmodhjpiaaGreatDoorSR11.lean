/- StepNames: calls, as the abstract machine reckons them, part 11. -/
import Derived.Test.YtciljbmodhjpiaaGreatDoorSV
namespace Go.Proofs.YtciljbmodhjpiaaGreatDoor
open Go.Ax
theorem runS57 : pureOk 1000 (eS57).2.2 (call Tryz.prog (cx []) 20000 (eS57).1 (eS57).2.1 h0) = true := by kernel_rfl
end Go.Proofs.YtciljbmodhjpiaaGreatDoor
