/- StepNames: calls, as the abstract machine reckons them, part 22. -/
import Derived.Test.YtciljbmodhjpiaaGreatDoorSV
namespace Go.Proofs.YtciljbmodhjpiaaGreatDoor
open Go.Ax
theorem runS128 : pureOk 1000 (eS128).2.2 (call Tryz.prog (cx [eS127]) 20000 (eS128).1 (eS128).2.1 h0) = true := by kernel_rfl
theorem runS129 : pureOk 1000 (eS129).2.2 (call Tryz.prog (cx [eS2]) 20000 (eS129).1 (eS129).2.1 h0) = true := by kernel_rfl
theorem runS130 : pureOk 1000 (eS130).2.2 (call Tryz.prog (cx [eS129]) 20000 (eS130).1 (eS130).2.1 h0) = true := by kernel_rfl
theorem runS131 : pureOk 1000 (eS131).2.2 (call Tryz.prog (cx [eS129]) 20000 (eS131).1 (eS131).2.1 h0) = true := by kernel_rfl
theorem runS132 : pureOk 1000 (eS132).2.2 (call Tryz.prog (cx [eS130, eS131]) 20000 (eS132).1 (eS132).2.1 h0) = true := by kernel_rfl
theorem runS133 : pureOk 1000 (eS133).2.2 (call Tryz.prog (cx [eS129]) 20000 (eS133).1 (eS133).2.1 h0) = true := by kernel_rfl
theorem runS134 : pureOk 1000 (eS134).2.2 (call Tryz.prog (cx [eS129]) 20000 (eS134).1 (eS134).2.1 h0) = true := by kernel_rfl
theorem runS135 : pureOk 1000 (eS135).2.2 (call Tryz.prog (cx [eS129]) 20000 (eS135).1 (eS135).2.1 h0) = true := by kernel_rfl
theorem runS136 : pureOk 1000 (eS136).2.2 (call Tryz.prog (cx [eS134, eS135]) 20000 (eS136).1 (eS136).2.1 h0) = true := by kernel_rfl
theorem runS137 : pureOk 1000 (eS137).2.2 (call Tryz.prog (cx [eS129]) 20000 (eS137).1 (eS137).2.1 h0) = true := by kernel_rfl
theorem runS138 : pureOk 1000 (eS138).2.2 (call Tryz.prog (cx [eS129, eS130, eS132, eS133, eS134, eS136, eS137]) 20000 (eS138).1 (eS138).2.1 h0) = true := by kernel_rfl
end Go.Proofs.YtciljbmodhjpiaaGreatDoor
