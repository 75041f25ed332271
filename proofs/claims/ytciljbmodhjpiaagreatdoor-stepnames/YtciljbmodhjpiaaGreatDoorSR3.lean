/- StepNames: calls, as the abstract machine reckons them, part 3. -/
import Derived.Test.YtciljbmodhjpiaaGreatDoorSV
namespace Go.Proofs.YtciljbmodhjpiaaGreatDoor
open Go.Ax
theorem runS15 : pureOk 1000 (eS15).2.2 (call Tryz.prog (cx []) 20000 (eS15).1 (eS15).2.1 h0) = true := by kernel_rfl
end Go.Proofs.YtciljbmodhjpiaaGreatDoor
