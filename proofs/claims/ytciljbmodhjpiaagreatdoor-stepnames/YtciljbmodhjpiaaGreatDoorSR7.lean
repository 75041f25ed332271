/- StepNames: calls, as the abstract machine reckons them, part 7. -/
import Derived.Test.YtciljbmodhjpiaaGreatDoorSV
namespace Go.Proofs.YtciljbmodhjpiaaGreatDoor
open Go.Ax
theorem runS30 : pureOk 1000 (eS30).2.2 (call Tryz.prog (cx [eS29]) 20000 (eS30).1 (eS30).2.1 h0) = true := by kernel_rfl
theorem runS31 : pureOk 1000 (eS31).2.2 (call Tryz.prog (cx [eS2]) 20000 (eS31).1 (eS31).2.1 h0) = true := by kernel_rfl
theorem runS32 : pureOk 1000 (eS32).2.2 (call Tryz.prog (cx [eS31]) 20000 (eS32).1 (eS32).2.1 h0) = true := by kernel_rfl
theorem runS33 : pureOk 1000 (eS33).2.2 (call Tryz.prog (cx [eS31]) 20000 (eS33).1 (eS33).2.1 h0) = true := by kernel_rfl
theorem runS34 : pureOk 1000 (eS34).2.2 (call Tryz.prog (cx [eS32, eS33]) 20000 (eS34).1 (eS34).2.1 h0) = true := by kernel_rfl
theorem runS35 : pureOk 1000 (eS35).2.2 (call Tryz.prog (cx [eS31]) 20000 (eS35).1 (eS35).2.1 h0) = true := by kernel_rfl
theorem runS36 : pureOk 1000 (eS36).2.2 (call Tryz.prog (cx [eS31]) 20000 (eS36).1 (eS36).2.1 h0) = true := by kernel_rfl
end Go.Proofs.YtciljbmodhjpiaaGreatDoor
