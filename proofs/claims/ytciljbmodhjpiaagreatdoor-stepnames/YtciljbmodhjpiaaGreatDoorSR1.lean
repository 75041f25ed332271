/- StepNames: calls, as the abstract machine reckons them, part 1. -/
import Derived.Test.YtciljbmodhjpiaaGreatDoorSV
namespace Go.Proofs.YtciljbmodhjpiaaGreatDoor
open Go.Ax
theorem runS1 : pureOk 1000 (eS1).2.2 (call Tryz.prog (cx [eS0]) 20000 (eS1).1 (eS1).2.1 h0) = true := by kernel_rfl
theorem runS2 : pureOk 1000 (eS2).2.2 (call Tryz.prog (cx []) 20000 (eS2).1 (eS2).2.1 h0) = true := by kernel_rfl
theorem runS3 : pureOk 1000 (eS3).2.2 (call Tryz.prog (cx [eS2]) 20000 (eS3).1 (eS3).2.1 h0) = true := by kernel_rfl
theorem runS4 : pureOk 1000 (eS4).2.2 (call Tryz.prog (cx [eS3]) 20000 (eS4).1 (eS4).2.1 h0) = true := by kernel_rfl
theorem runS5 : pureOk 1000 (eS5).2.2 (call Tryz.prog (cx [eS3]) 20000 (eS5).1 (eS5).2.1 h0) = true := by kernel_rfl
theorem runS6 : pureOk 1000 (eS6).2.2 (call Tryz.prog (cx [eS4, eS5]) 20000 (eS6).1 (eS6).2.1 h0) = true := by kernel_rfl
theorem runS7 : pureOk 1000 (eS7).2.2 (call Tryz.prog (cx [eS3]) 20000 (eS7).1 (eS7).2.1 h0) = true := by kernel_rfl
theorem runS8 : pureOk 1000 (eS8).2.2 (call Tryz.prog (cx [eS3]) 20000 (eS8).1 (eS8).2.1 h0) = true := by kernel_rfl
theorem runS9 : pureOk 1000 (eS9).2.2 (call Tryz.prog (cx [eS3]) 20000 (eS9).1 (eS9).2.1 h0) = true := by kernel_rfl
end Go.Proofs.YtciljbmodhjpiaaGreatDoor
