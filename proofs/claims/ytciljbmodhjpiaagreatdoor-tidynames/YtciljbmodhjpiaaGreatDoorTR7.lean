/- TidyNames: calls, as the abstract machine reckons them, part 7. -/
import Derived.Test.YtciljbmodhjpiaaGreatDoorTV
namespace Go.Proofs.YtciljbmodhjpiaaGreatDoor
open Go.Ax
theorem runT24 : pureOk 1000 (eT24).2.2 (call Tryz.prog (cx [eT23]) 20000 (eT24).1 (eT24).2.1 h0) = true := by kernel_rfl
theorem runT25 : pureOk 1000 (eT25).2.2 (call Tryz.prog (cx [eT2]) 20000 (eT25).1 (eT25).2.1 h0) = true := by kernel_rfl
end Go.Proofs.YtciljbmodhjpiaaGreatDoor
