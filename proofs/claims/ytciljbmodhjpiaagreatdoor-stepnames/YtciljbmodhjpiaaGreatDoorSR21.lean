/- StepNames: calls, as the abstract machine reckons them, part 21. -/
import Derived.Test.YtciljbmodhjpiaaGreatDoorSV
namespace Go.Proofs.YtciljbmodhjpiaaGreatDoor
open Go.Ax
theorem runS125 : pureOk 1000 (eS125).2.2 (call Tryz.prog (cx [eS2, eS114, eS115, eS124]) 20000 (eS125).1 (eS125).2.1 h0) = true := by kernel_rfl
theorem runS126 : pureOk 1000 (eS126).2.2 (call Tryz.prog (cx [eS125]) 20000 (eS126).1 (eS126).2.1 h0) = true := by kernel_rfl
theorem runS127 : pureOk 1000 (eS127).2.2 (call Tryz.prog (cx []) 20000 (eS127).1 (eS127).2.1 h0) = true := by kernel_rfl
end Go.Proofs.YtciljbmodhjpiaaGreatDoor
