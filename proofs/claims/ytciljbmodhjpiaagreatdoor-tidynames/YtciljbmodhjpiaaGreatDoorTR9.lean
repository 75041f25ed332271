/- TidyNames: calls, as the abstract machine reckons them, part 9. -/
import Derived.Test.YtciljbmodhjpiaaGreatDoorTV
namespace Go.Proofs.YtciljbmodhjpiaaGreatDoor
open Go.Ax
theorem runT28 : pureOk 1000 (eT28).2.2 (call Tryz.prog (cx []) 20000 (eT28).1 (eT28).2.1 h0) = true := by kernel_rfl
theorem runT29 : pureOk 1000 (eT29).2.2 (call Tryz.prog (cx [eT28]) 20000 (eT29).1 (eT29).2.1 h0) = true := by kernel_rfl
end Go.Proofs.YtciljbmodhjpiaaGreatDoor
