/- TidyNames: calls, as the abstract machine reckons them, part 11. -/
import Derived.Test.YtciljbmodhjpiaaGreatDoorTV
namespace Go.Proofs.YtciljbmodhjpiaaGreatDoor
open Go.Ax
theorem runT36 : pureOk 1000 (eT36).2.2 (call Tryz.prog (cx []) 20000 (eT36).1 (eT36).2.1 h0) = true := by kernel_rfl
end Go.Proofs.YtciljbmodhjpiaaGreatDoor
