/- StepNames: calls, as the abstract machine reckons them, part 2. -/
import Derived.Test.YtciljbmodhjpiaaGreatDoorSV
namespace Go.Proofs.YtciljbmodhjpiaaGreatDoor
open Go.Ax
theorem runS10 : pureOk 1000 (eS10).2.2 (call Tryz.prog (cx [eS8, eS9]) 20000 (eS10).1 (eS10).2.1 h0) = true := by kernel_rfl
theorem runS11 : pureOk 1000 (eS11).2.2 (call Tryz.prog (cx [eS3]) 20000 (eS11).1 (eS11).2.1 h0) = true := by kernel_rfl
theorem runS12 : pureOk 1000 (eS12).2.2 (call Tryz.prog (cx [eS3, eS4, eS6, eS7, eS8, eS10, eS11]) 20000 (eS12).1 (eS12).2.1 h0) = true := by kernel_rfl
theorem runS13 : pureOk 1000 (eS13).2.2 (call Tryz.prog (cx [eS1, eS2, eS3, eS12]) 20000 (eS13).1 (eS13).2.1 h0) = true := by kernel_rfl
theorem runS14 : pureOk 1000 (eS14).2.2 (call Tryz.prog (cx [eS13]) 20000 (eS14).1 (eS14).2.1 h0) = true := by kernel_rfl
end Go.Proofs.YtciljbmodhjpiaaGreatDoor
