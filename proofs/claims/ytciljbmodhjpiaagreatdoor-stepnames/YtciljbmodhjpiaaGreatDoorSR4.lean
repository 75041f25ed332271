/- StepNames: calls, as the abstract machine reckons them, part 4. -/
import Derived.Test.YtciljbmodhjpiaaGreatDoorSV
namespace Go.Proofs.YtciljbmodhjpiaaGreatDoor
open Go.Ax
theorem runS16 : pureOk 1000 (eS16).2.2 (call Tryz.prog (cx [eS15]) 20000 (eS16).1 (eS16).2.1 h0) = true := by kernel_rfl
theorem runS17 : pureOk 1000 (eS17).2.2 (call Tryz.prog (cx [eS2]) 20000 (eS17).1 (eS17).2.1 h0) = true := by kernel_rfl
theorem runS18 : pureOk 1000 (eS18).2.2 (call Tryz.prog (cx [eS17]) 20000 (eS18).1 (eS18).2.1 h0) = true := by kernel_rfl
theorem runS19 : pureOk 1000 (eS19).2.2 (call Tryz.prog (cx [eS17]) 20000 (eS19).1 (eS19).2.1 h0) = true := by kernel_rfl
theorem runS20 : pureOk 1000 (eS20).2.2 (call Tryz.prog (cx [eS18, eS19]) 20000 (eS20).1 (eS20).2.1 h0) = true := by kernel_rfl
theorem runS21 : pureOk 1000 (eS21).2.2 (call Tryz.prog (cx [eS17]) 20000 (eS21).1 (eS21).2.1 h0) = true := by kernel_rfl
theorem runS22 : pureOk 1000 (eS22).2.2 (call Tryz.prog (cx [eS17]) 20000 (eS22).1 (eS22).2.1 h0) = true := by kernel_rfl
theorem runS23 : pureOk 1000 (eS23).2.2 (call Tryz.prog (cx [eS17]) 20000 (eS23).1 (eS23).2.1 h0) = true := by kernel_rfl
theorem runS24 : pureOk 1000 (eS24).2.2 (call Tryz.prog (cx [eS22, eS23]) 20000 (eS24).1 (eS24).2.1 h0) = true := by kernel_rfl
theorem runS25 : pureOk 1000 (eS25).2.2 (call Tryz.prog (cx [eS17]) 20000 (eS25).1 (eS25).2.1 h0) = true := by kernel_rfl
end Go.Proofs.YtciljbmodhjpiaaGreatDoor
