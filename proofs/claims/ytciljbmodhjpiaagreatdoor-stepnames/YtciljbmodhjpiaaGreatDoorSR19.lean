/- StepNames: calls, as the abstract machine reckons them, part 19. -/
import Derived.Test.YtciljbmodhjpiaaGreatDoorSV
namespace Go.Proofs.YtciljbmodhjpiaaGreatDoor
open Go.Ax
theorem runS111 : pureOk 1000 (eS111).2.2 (call Tryz.prog (cx [eS100, eS101, eS110]) 20000 (eS111).1 (eS111).2.1 h0) = true := by kernel_rfl
theorem runS112 : pureOk 1000 (eS112).2.2 (call Tryz.prog (cx [eS111]) 20000 (eS112).1 (eS112).2.1 h0) = true := by kernel_rfl
theorem runS113 : pureOk 1000 (eS113).2.2 (call Tryz.prog (cx []) 20000 (eS113).1 (eS113).2.1 h0) = true := by kernel_rfl
end Go.Proofs.YtciljbmodhjpiaaGreatDoor
