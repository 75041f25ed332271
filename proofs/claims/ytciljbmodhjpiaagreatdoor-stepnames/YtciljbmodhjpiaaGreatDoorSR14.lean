/- StepNames: calls, as the abstract machine reckons them, part 14. -/
import Derived.Test.YtciljbmodhjpiaaGreatDoorSV
namespace Go.Proofs.YtciljbmodhjpiaaGreatDoor
open Go.Ax
theorem runS72 : pureOk 1000 (eS72).2.2 (call Tryz.prog (cx [eS71]) 20000 (eS72).1 (eS72).2.1 h0) = true := by kernel_rfl
theorem runS73 : pureOk 1000 (eS73).2.2 (call Tryz.prog (cx [eS2]) 20000 (eS73).1 (eS73).2.1 h0) = true := by kernel_rfl
theorem runS74 : pureOk 1000 (eS74).2.2 (call Tryz.prog (cx [eS73]) 20000 (eS74).1 (eS74).2.1 h0) = true := by kernel_rfl
theorem runS75 : pureOk 1000 (eS75).2.2 (call Tryz.prog (cx [eS73]) 20000 (eS75).1 (eS75).2.1 h0) = true := by kernel_rfl
theorem runS76 : pureOk 1000 (eS76).2.2 (call Tryz.prog (cx [eS74, eS75]) 20000 (eS76).1 (eS76).2.1 h0) = true := by kernel_rfl
theorem runS77 : pureOk 1000 (eS77).2.2 (call Tryz.prog (cx [eS73]) 20000 (eS77).1 (eS77).2.1 h0) = true := by kernel_rfl
theorem runS78 : pureOk 1000 (eS78).2.2 (call Tryz.prog (cx [eS73]) 20000 (eS78).1 (eS78).2.1 h0) = true := by kernel_rfl
theorem runS79 : pureOk 1000 (eS79).2.2 (call Tryz.prog (cx [eS73]) 20000 (eS79).1 (eS79).2.1 h0) = true := by kernel_rfl
theorem runS80 : pureOk 1000 (eS80).2.2 (call Tryz.prog (cx [eS78, eS79]) 20000 (eS80).1 (eS80).2.1 h0) = true := by kernel_rfl
theorem runS81 : pureOk 1000 (eS81).2.2 (call Tryz.prog (cx [eS73]) 20000 (eS81).1 (eS81).2.1 h0) = true := by kernel_rfl
theorem runS82 : pureOk 1000 (eS82).2.2 (call Tryz.prog (cx [eS73, eS74, eS76, eS77, eS78, eS80, eS81]) 20000 (eS82).1 (eS82).2.1 h0) = true := by kernel_rfl
end Go.Proofs.YtciljbmodhjpiaaGreatDoor
