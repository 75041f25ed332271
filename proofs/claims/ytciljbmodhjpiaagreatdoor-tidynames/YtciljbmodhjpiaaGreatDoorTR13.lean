/- TidyNames: calls, as the abstract machine reckons them, part 13. -/
import Derived.Test.YtciljbmodhjpiaaGreatDoorTV
namespace Go.Proofs.YtciljbmodhjpiaaGreatDoor
open Go.Ax
theorem runT44 : pureOk 1000 (eT44).2.2 (call Tryz.prog (cx [eT43]) 20000 (eT44).1 (eT44).2.1 h0) = true := by kernel_rfl
theorem runT45 : pureOk 1000 (eT45).2.2 (call Tryz.prog (cx [eT2]) 20000 (eT45).1 (eT45).2.1 h0) = true := by kernel_rfl
theorem runT46 : pureOk 1000 (eT46).2.2 (call Tryz.prog (cx [eT45]) 20000 (eT46).1 (eT46).2.1 h0) = true := by kernel_rfl
theorem runT47 : pureOk 1000 (eT47).2.2 (call Tryz.prog (cx [eT37, eT44, eT46]) 20000 (eT47).1 (eT47).2.1 h0) = true := by kernel_rfl
end Go.Proofs.YtciljbmodhjpiaaGreatDoor
