/- TidyNames: calls, as the abstract machine reckons them, part 5. -/
import Derived.Test.YtciljbmodhjpiaaGreatDoorTV
namespace Go.Proofs.YtciljbmodhjpiaaGreatDoor
open Go.Ax
theorem runT14 : pureOk 1000 (eT14).2.2 (call Tryz.prog (cx [eT13]) 20000 (eT14).1 (eT14).2.1 h0) = true := by kernel_rfl
end Go.Proofs.YtciljbmodhjpiaaGreatDoor
