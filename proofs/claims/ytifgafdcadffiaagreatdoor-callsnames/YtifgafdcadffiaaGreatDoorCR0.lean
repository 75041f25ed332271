/- CallsNames: calls, as the abstract machine reckons them, part 0. -/
import Derived.Test.YtifgafdcadffiaaGreatDoorCV
namespace Go.Proofs.YtifgafdcadffiaaGreatDoor
open Go.Ax
theorem runC0 : pureOk 1000 (eC0).2.2 (call Tryz.prog (cx []) 20000 (eC0).1 (eC0).2.1 h0) = true := by kernel_rfl
end Go.Proofs.YtifgafdcadffiaaGreatDoor
