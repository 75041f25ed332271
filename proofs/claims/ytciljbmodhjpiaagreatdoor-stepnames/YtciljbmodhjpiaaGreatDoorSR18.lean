/- StepNames: calls, as the abstract machine reckons them, part 18. -/
import Derived.Test.YtciljbmodhjpiaaGreatDoorSV
namespace Go.Proofs.YtciljbmodhjpiaaGreatDoor
open Go.Ax
theorem runS100 : pureOk 1000 (eS100).2.2 (call Tryz.prog (cx [eS99]) 20000 (eS100).1 (eS100).2.1 h0) = true := by kernel_rfl
theorem runS101 : pureOk 1000 (eS101).2.2 (call Tryz.prog (cx [eS2]) 20000 (eS101).1 (eS101).2.1 h0) = true := by kernel_rfl
theorem runS102 : pureOk 1000 (eS102).2.2 (call Tryz.prog (cx [eS101]) 20000 (eS102).1 (eS102).2.1 h0) = true := by kernel_rfl
theorem runS103 : pureOk 1000 (eS103).2.2 (call Tryz.prog (cx [eS101]) 20000 (eS103).1 (eS103).2.1 h0) = true := by kernel_rfl
theorem runS104 : pureOk 1000 (eS104).2.2 (call Tryz.prog (cx [eS102, eS103]) 20000 (eS104).1 (eS104).2.1 h0) = true := by kernel_rfl
theorem runS105 : pureOk 1000 (eS105).2.2 (call Tryz.prog (cx [eS101]) 20000 (eS105).1 (eS105).2.1 h0) = true := by kernel_rfl
theorem runS106 : pureOk 1000 (eS106).2.2 (call Tryz.prog (cx [eS101]) 20000 (eS106).1 (eS106).2.1 h0) = true := by kernel_rfl
theorem runS107 : pureOk 1000 (eS107).2.2 (call Tryz.prog (cx [eS101]) 20000 (eS107).1 (eS107).2.1 h0) = true := by kernel_rfl
theorem runS108 : pureOk 1000 (eS108).2.2 (call Tryz.prog (cx [eS106, eS107]) 20000 (eS108).1 (eS108).2.1 h0) = true := by kernel_rfl
theorem runS109 : pureOk 1000 (eS109).2.2 (call Tryz.prog (cx [eS101]) 20000 (eS109).1 (eS109).2.1 h0) = true := by kernel_rfl
theorem runS110 : pureOk 1000 (eS110).2.2 (call Tryz.prog (cx [eS101, eS102, eS104, eS105, eS106, eS108, eS109]) 20000 (eS110).1 (eS110).2.1 h0) = true := by kernel_rfl
end Go.Proofs.YtciljbmodhjpiaaGreatDoor
