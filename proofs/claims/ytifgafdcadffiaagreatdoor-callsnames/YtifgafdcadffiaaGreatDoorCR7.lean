/- CallsNames: calls, as the abstract machine reckons them, part 7. -/
import Derived.Test.YtifgafdcadffiaaGreatDoorCV
namespace Go.Proofs.YtifgafdcadffiaaGreatDoor
open Go.Ax
theorem runC128 : pureOk 1000 (eC128).2.2 (call Tryz.prog (cx [eC125, eC127]) 20000 (eC128).1 (eC128).2.1 h0) = true := by kernel_rfl
theorem runC129 : pureOk 1000 (eC129).2.2 (call Tryz.prog (cx []) 20000 (eC129).1 (eC129).2.1 h0) = true := by kernel_rfl
theorem runC130 : pureOk 1000 (eC130).2.2 (call Tryz.prog (cx [eC88, eC129]) 20000 (eC130).1 (eC130).2.1 h0) = true := by kernel_rfl
theorem runC131 : pureOk 1000 (eC131).2.2 (call Tryz.prog (cx []) 20000 (eC131).1 (eC131).2.1 h0) = true := by kernel_rfl
theorem runC132 : pureOk 1000 (eC132).2.2 (call Tryz.prog (cx [eC88, eC131]) 20000 (eC132).1 (eC132).2.1 h0) = true := by kernel_rfl
theorem runC133 : pureOk 1000 (eC133).2.2 (call Tryz.prog (cx []) 20000 (eC133).1 (eC133).2.1 h0) = true := by kernel_rfl
theorem runC134 : pureOk 1000 (eC134).2.2 (call Tryz.prog (cx [eC88, eC133]) 20000 (eC134).1 (eC134).2.1 h0) = true := by kernel_rfl
end Go.Proofs.YtifgafdcadffiaaGreatDoor
