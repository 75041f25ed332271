/- LoopNames: calls, as the abstract machine reckons them, part 0. -/
import Derived.Test.YtifgafdcadffiaaGreatDoorLV
namespace Go.Proofs.YtifgafdcadffiaaGreatDoor
open Go.Ax
theorem runL0 : pureOk 1000 (eL0).2.2 (call Tryz.prog (cx []) 20000 (eL0).1 (eL0).2.1 h0) = true := by kernel_rfl
end Go.Proofs.YtifgafdcadffiaaGreatDoor
