/- ScalarNames: calls, as the abstract machine reckons them, part 12. -/
import Derived.Test.YtolmndaigpcdaaaGreatDoorKV
namespace Go.Proofs.YtolmndaigpcdaaaGreatDoor
open Go.Ax
theorem runK125 : pureOk 1000 (eK125).2.2 (call Tryz.prog (cx []) 20000 (eK125).1 (eK125).2.1 h0) = true := by kernel_rfl
end Go.Proofs.YtolmndaigpcdaaaGreatDoor
