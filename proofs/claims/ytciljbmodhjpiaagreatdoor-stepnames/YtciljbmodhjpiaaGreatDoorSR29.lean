/- StepNames: calls, as the abstract machine reckons them, part 29. -/
import Derived.Test.YtciljbmodhjpiaaGreatDoorSV
namespace Go.Proofs.YtciljbmodhjpiaaGreatDoor
open Go.Ax
theorem runS186 : pureOk 1000 (eS186).2.2 (call Tryz.prog (cx [eS174, eS175, eS185]) 20000 (eS186).1 (eS186).2.1 h0) = true := by kernel_rfl
theorem runS187 : pureOk 1000 (eS187).2.2 (call Tryz.prog (cx [eS186]) 20000 (eS187).1 (eS187).2.1 h0) = true := by kernel_rfl
theorem runS188 : pureOk 1000 (eS188).2.2 (call Tryz.prog (cx [eS187]) 20000 (eS188).1 (eS188).2.1 h0) = true := by kernel_rfl
end Go.Proofs.YtciljbmodhjpiaaGreatDoor
