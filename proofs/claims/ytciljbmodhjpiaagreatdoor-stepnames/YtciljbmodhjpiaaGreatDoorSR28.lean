/- StepNames: calls, as the abstract machine reckons them, part 28. -/
import Derived.Test.YtciljbmodhjpiaaGreatDoorSV
namespace Go.Proofs.YtciljbmodhjpiaaGreatDoor
open Go.Ax
theorem runS174 : pureOk 1000 (eS174).2.2 (call Tryz.prog (cx [eS173]) 20000 (eS174).1 (eS174).2.1 h0) = true := by kernel_rfl
theorem runS175 : pureOk 1000 (eS175).2.2 (call Tryz.prog (cx [eS2]) 20000 (eS175).1 (eS175).2.1 h0) = true := by kernel_rfl
theorem runS176 : pureOk 1000 (eS176).2.2 (call Tryz.prog (cx [eS175]) 20000 (eS176).1 (eS176).2.1 h0) = true := by kernel_rfl
theorem runS177 : pureOk 1000 (eS177).2.2 (call Tryz.prog (cx [eS175]) 20000 (eS177).1 (eS177).2.1 h0) = true := by kernel_rfl
theorem runS178 : pureOk 1000 (eS178).2.2 (call Tryz.prog (cx [eS176, eS177]) 20000 (eS178).1 (eS178).2.1 h0) = true := by kernel_rfl
theorem runS179 : pureOk 1000 (eS179).2.2 (call Tryz.prog (cx [eS175]) 20000 (eS179).1 (eS179).2.1 h0) = true := by kernel_rfl
theorem runS180 : pureOk 1000 (eS180).2.2 (call Tryz.prog (cx [eS175]) 20000 (eS180).1 (eS180).2.1 h0) = true := by kernel_rfl
theorem runS181 : pureOk 1000 (eS181).2.2 (call Tryz.prog (cx [eS175]) 20000 (eS181).1 (eS181).2.1 h0) = true := by kernel_rfl
theorem runS182 : pureOk 1000 (eS182).2.2 (call Tryz.prog (cx [eS175]) 20000 (eS182).1 (eS182).2.1 h0) = true := by kernel_rfl
theorem runS183 : pureOk 1000 (eS183).2.2 (call Tryz.prog (cx [eS181, eS182]) 20000 (eS183).1 (eS183).2.1 h0) = true := by kernel_rfl
theorem runS184 : pureOk 1000 (eS184).2.2 (call Tryz.prog (cx [eS175]) 20000 (eS184).1 (eS184).2.1 h0) = true := by kernel_rfl
theorem runS185 : pureOk 1000 (eS185).2.2 (call Tryz.prog (cx [eS175, eS176, eS178, eS179, eS180, eS181, eS183, eS184]) 20000 (eS185).1 (eS185).2.1 h0) = true := by kernel_rfl
end Go.Proofs.YtciljbmodhjpiaaGreatDoor
