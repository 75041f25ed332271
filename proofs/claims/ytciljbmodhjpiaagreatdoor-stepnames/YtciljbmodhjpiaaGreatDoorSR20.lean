/- StepNames: calls, as the abstract machine reckons them, part 20. -/
import Derived.Test.YtciljbmodhjpiaaGreatDoorSV
namespace Go.Proofs.YtciljbmodhjpiaaGreatDoor
open Go.Ax
theorem runS114 : pureOk 1000 (eS114).2.2 (call Tryz.prog (cx [eS113]) 20000 (eS114).1 (eS114).2.1 h0) = true := by kernel_rfl
theorem runS115 : pureOk 1000 (eS115).2.2 (call Tryz.prog (cx [eS2]) 20000 (eS115).1 (eS115).2.1 h0) = true := by kernel_rfl
theorem runS116 : pureOk 1000 (eS116).2.2 (call Tryz.prog (cx [eS115]) 20000 (eS116).1 (eS116).2.1 h0) = true := by kernel_rfl
theorem runS117 : pureOk 1000 (eS117).2.2 (call Tryz.prog (cx [eS115]) 20000 (eS117).1 (eS117).2.1 h0) = true := by kernel_rfl
theorem runS118 : pureOk 1000 (eS118).2.2 (call Tryz.prog (cx [eS116, eS117]) 20000 (eS118).1 (eS118).2.1 h0) = true := by kernel_rfl
theorem runS119 : pureOk 1000 (eS119).2.2 (call Tryz.prog (cx [eS115]) 20000 (eS119).1 (eS119).2.1 h0) = true := by kernel_rfl
theorem runS120 : pureOk 1000 (eS120).2.2 (call Tryz.prog (cx [eS115]) 20000 (eS120).1 (eS120).2.1 h0) = true := by kernel_rfl
theorem runS121 : pureOk 1000 (eS121).2.2 (call Tryz.prog (cx [eS115]) 20000 (eS121).1 (eS121).2.1 h0) = true := by kernel_rfl
theorem runS122 : pureOk 1000 (eS122).2.2 (call Tryz.prog (cx [eS120, eS121]) 20000 (eS122).1 (eS122).2.1 h0) = true := by kernel_rfl
theorem runS123 : pureOk 1000 (eS123).2.2 (call Tryz.prog (cx [eS115]) 20000 (eS123).1 (eS123).2.1 h0) = true := by kernel_rfl
theorem runS124 : pureOk 1000 (eS124).2.2 (call Tryz.prog (cx [eS115, eS116, eS118, eS119, eS120, eS122, eS123]) 20000 (eS124).1 (eS124).2.1 h0) = true := by kernel_rfl
end Go.Proofs.YtciljbmodhjpiaaGreatDoor
