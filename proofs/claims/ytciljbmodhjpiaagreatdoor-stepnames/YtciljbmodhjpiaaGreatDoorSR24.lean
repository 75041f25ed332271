/- StepNames: calls, as the abstract machine reckons them, part 24. -/
import Derived.Test.YtciljbmodhjpiaaGreatDoorSV
namespace Go.Proofs.YtciljbmodhjpiaaGreatDoor
open Go.Ax
theorem runS142 : pureOk 1000 (eS142).2.2 (call Tryz.prog (cx [eS141]) 20000 (eS142).1 (eS142).2.1 h0) = true := by kernel_rfl
theorem runS143 : pureOk 1000 (eS143).2.2 (call Tryz.prog (cx [eS2]) 20000 (eS143).1 (eS143).2.1 h0) = true := by kernel_rfl
theorem runS144 : pureOk 1000 (eS144).2.2 (call Tryz.prog (cx [eS143]) 20000 (eS144).1 (eS144).2.1 h0) = true := by kernel_rfl
theorem runS145 : pureOk 1000 (eS145).2.2 (call Tryz.prog (cx [eS143]) 20000 (eS145).1 (eS145).2.1 h0) = true := by kernel_rfl
theorem runS146 : pureOk 1000 (eS146).2.2 (call Tryz.prog (cx [eS144, eS145]) 20000 (eS146).1 (eS146).2.1 h0) = true := by kernel_rfl
theorem runS147 : pureOk 1000 (eS147).2.2 (call Tryz.prog (cx [eS143]) 20000 (eS147).1 (eS147).2.1 h0) = true := by kernel_rfl
theorem runS148 : pureOk 1000 (eS148).2.2 (call Tryz.prog (cx [eS143]) 20000 (eS148).1 (eS148).2.1 h0) = true := by kernel_rfl
theorem runS149 : pureOk 1000 (eS149).2.2 (call Tryz.prog (cx [eS143]) 20000 (eS149).1 (eS149).2.1 h0) = true := by kernel_rfl
theorem runS150 : pureOk 1000 (eS150).2.2 (call Tryz.prog (cx [eS148, eS149]) 20000 (eS150).1 (eS150).2.1 h0) = true := by kernel_rfl
theorem runS151 : pureOk 1000 (eS151).2.2 (call Tryz.prog (cx [eS143]) 20000 (eS151).1 (eS151).2.1 h0) = true := by kernel_rfl
theorem runS152 : pureOk 1000 (eS152).2.2 (call Tryz.prog (cx [eS143, eS144, eS146, eS147, eS148, eS150, eS151]) 20000 (eS152).1 (eS152).2.1 h0) = true := by kernel_rfl
end Go.Proofs.YtciljbmodhjpiaaGreatDoor
