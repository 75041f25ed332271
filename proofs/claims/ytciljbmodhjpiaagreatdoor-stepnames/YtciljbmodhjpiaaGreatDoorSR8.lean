/- StepNames: calls, as the abstract machine reckons them, part 8. -/
import Derived.Test.YtciljbmodhjpiaaGreatDoorSV
namespace Go.Proofs.YtciljbmodhjpiaaGreatDoor
open Go.Ax
theorem runS37 : pureOk 1000 (eS37).2.2 (call Tryz.prog (cx [eS31]) 20000 (eS37).1 (eS37).2.1 h0) = true := by kernel_rfl
theorem runS38 : pureOk 1000 (eS38).2.2 (call Tryz.prog (cx [eS36, eS37]) 20000 (eS38).1 (eS38).2.1 h0) = true := by kernel_rfl
theorem runS39 : pureOk 1000 (eS39).2.2 (call Tryz.prog (cx [eS31]) 20000 (eS39).1 (eS39).2.1 h0) = true := by kernel_rfl
theorem runS40 : pureOk 1000 (eS40).2.2 (call Tryz.prog (cx [eS31, eS32, eS34, eS35, eS36, eS38, eS39]) 20000 (eS40).1 (eS40).2.1 h0) = true := by kernel_rfl
theorem runS41 : pureOk 1000 (eS41).2.2 (call Tryz.prog (cx [eS2, eS30, eS31, eS40]) 20000 (eS41).1 (eS41).2.1 h0) = true := by kernel_rfl
theorem runS42 : pureOk 1000 (eS42).2.2 (call Tryz.prog (cx [eS41]) 20000 (eS42).1 (eS42).2.1 h0) = true := by kernel_rfl
end Go.Proofs.YtciljbmodhjpiaaGreatDoor
