/- TidyNames: calls, as the abstract machine reckons them, part 0. -/
import Derived.Test.YtciljbmodhjpiaaGreatDoorTV
namespace Go.Proofs.YtciljbmodhjpiaaGreatDoor
open Go.Ax
theorem runT0 : pureOk 1000 (eT0).2.2 (call Tryz.prog (cx []) 20000 (eT0).1 (eT0).2.1 h0) = true := by kernel_rfl
end Go.Proofs.YtciljbmodhjpiaaGreatDoor
