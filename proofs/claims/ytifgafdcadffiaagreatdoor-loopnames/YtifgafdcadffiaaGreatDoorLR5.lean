/- LoopNames: calls, as the abstract machine reckons them, part 5. -/
import Derived.Test.YtifgafdcadffiaaGreatDoorLV
namespace Go.Proofs.YtifgafdcadffiaaGreatDoor
open Go.Ax
theorem runL94 : pureOk 1000 (eL94).2.2 (call Tryz.prog (cx [eL76]) 20000 (eL94).1 (eL94).2.1 h0) = true := by kernel_rfl
theorem runL95 : pureOk 1000 (eL95).2.2 (call Tryz.prog (cx [eL76]) 20000 (eL95).1 (eL95).2.1 h0) = true := by kernel_rfl
theorem runL96 : pureOk 1000 (eL96).2.2 (call Tryz.prog (cx [eL76]) 20000 (eL96).1 (eL96).2.1 h0) = true := by kernel_rfl
theorem runL97 : pureOk 1000 (eL97).2.2 (call Tryz.prog (cx [eL76]) 20000 (eL97).1 (eL97).2.1 h0) = true := by kernel_rfl
theorem runL98 : pureOk 1000 (eL98).2.2 (call Tryz.prog (cx [eL76]) 20000 (eL98).1 (eL98).2.1 h0) = true := by kernel_rfl
theorem runL99 : pureOk 1000 (eL99).2.2 (call Tryz.prog (cx [eL76]) 20000 (eL99).1 (eL99).2.1 h0) = true := by kernel_rfl
theorem runL100 : pureOk 1000 (eL100).2.2 (call Tryz.prog (cx [eL76]) 20000 (eL100).1 (eL100).2.1 h0) = true := by kernel_rfl
theorem runL101 : pureOk 1000 (eL101).2.2 (call Tryz.prog (cx [eL76]) 20000 (eL101).1 (eL101).2.1 h0) = true := by kernel_rfl
end Go.Proofs.YtifgafdcadffiaaGreatDoor
