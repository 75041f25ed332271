/- ScalarNames: calls, as the abstract machine reckons them, part 18. -/
import Derived.Test.YtolmndaigpcdaaaGreatDoorKV
namespace Go.Proofs.YtolmndaigpcdaaaGreatDoor
open Go.Ax
theorem runK183 : pureOk 1000 (eK183).2.2 (call Tryz.prog (cx []) 20000 (eK183).1 (eK183).2.1 h0) = true := by kernel_rfl
end Go.Proofs.YtolmndaigpcdaaaGreatDoor
