/- TidyNames: calls, as the abstract machine reckons them, part 1. -/
import Derived.Test.YtciljbmodhjpiaaGreatDoorTV
namespace Go.Proofs.YtciljbmodhjpiaaGreatDoor
open Go.Ax
theorem runT1 : pureOk 1000 (eT1).2.2 (call Tryz.prog (cx [eT0]) 20000 (eT1).1 (eT1).2.1 h0) = true := by kernel_rfl
theorem runT2 : pureOk 1000 (eT2).2.2 (call Tryz.prog (cx []) 20000 (eT2).1 (eT2).2.1 h0) = true := by kernel_rfl
theorem runT3 : pureOk 1000 (eT3).2.2 (call Tryz.prog (cx [eT2]) 20000 (eT3).1 (eT3).2.1 h0) = true := by kernel_rfl
end Go.Proofs.YtciljbmodhjpiaaGreatDoor
