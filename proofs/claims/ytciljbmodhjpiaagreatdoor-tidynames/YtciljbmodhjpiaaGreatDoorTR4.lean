/- TidyNames: calls, as the abstract machine reckons them, part 4. -/
import Derived.Test.YtciljbmodhjpiaaGreatDoorTV
namespace Go.Proofs.YtciljbmodhjpiaaGreatDoor
open Go.Ax
theorem runT13 : pureOk 1000 (eT13).2.2 (call Tryz.prog (cx []) 20000 (eT13).1 (eT13).2.1 h0) = true := by kernel_rfl
end Go.Proofs.YtciljbmodhjpiaaGreatDoor
