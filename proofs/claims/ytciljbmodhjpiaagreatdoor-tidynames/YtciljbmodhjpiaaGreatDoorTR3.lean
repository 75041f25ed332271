/- TidyNames: calls, as the abstract machine reckons them, part 3. -/
import Derived.Test.YtciljbmodhjpiaaGreatDoorTV
namespace Go.Proofs.YtciljbmodhjpiaaGreatDoor
open Go.Ax
theorem runT11 : pureOk 1000 (eT11).2.2 (call Tryz.prog (cx [eT10]) 20000 (eT11).1 (eT11).2.1 h0) = true := by kernel_rfl
theorem runT12 : pureOk 1000 (eT12).2.2 (call Tryz.prog (cx [eT1, eT9, eT11]) 20000 (eT12).1 (eT12).2.1 h0) = true := by kernel_rfl
end Go.Proofs.YtciljbmodhjpiaaGreatDoor
