/- StepNames: calls, as the abstract machine reckons them, part 5. -/
import Derived.Test.YtciljbmodhjpiaaGreatDoorSV
namespace Go.Proofs.YtciljbmodhjpiaaGreatDoor
open Go.Ax
theorem runS26 : pureOk 1000 (eS26).2.2 (call Tryz.prog (cx [eS17, eS18, eS20, eS21, eS22, eS24, eS25]) 20000 (eS26).1 (eS26).2.1 h0) = true := by kernel_rfl
theorem runS27 : pureOk 1000 (eS27).2.2 (call Tryz.prog (cx [eS2, eS16, eS17, eS26]) 20000 (eS27).1 (eS27).2.1 h0) = true := by kernel_rfl
theorem runS28 : pureOk 1000 (eS28).2.2 (call Tryz.prog (cx [eS27]) 20000 (eS28).1 (eS28).2.1 h0) = true := by kernel_rfl
end Go.Proofs.YtciljbmodhjpiaaGreatDoor
