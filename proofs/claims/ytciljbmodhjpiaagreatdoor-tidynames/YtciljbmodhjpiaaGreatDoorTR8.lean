/- TidyNames: calls, as the abstract machine reckons them, part 8. -/
import Derived.Test.YtciljbmodhjpiaaGreatDoorTV
namespace Go.Proofs.YtciljbmodhjpiaaGreatDoor
open Go.Ax
theorem runT26 : pureOk 1000 (eT26).2.2 (call Tryz.prog (cx [eT25]) 20000 (eT26).1 (eT26).2.1 h0) = true := by kernel_rfl
theorem runT27 : pureOk 1000 (eT27).2.2 (call Tryz.prog (cx [eT14, eT24, eT26]) 20000 (eT27).1 (eT27).2.1 h0) = true := by kernel_rfl
end Go.Proofs.YtciljbmodhjpiaaGreatDoor
