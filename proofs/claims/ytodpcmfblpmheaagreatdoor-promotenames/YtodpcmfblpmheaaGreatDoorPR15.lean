/- PromoteNames: calls, as the abstract machine reckons them, part 15. -/
import Derived.Test.YtodpcmfblpmheaaGreatDoorPV
namespace Go.Proofs.YtodpcmfblpmheaaGreatDoor
open Go.Ax
theorem runP185 : pureOk 1000 (eP185).2.2 (call Tryz.prog (cx []) 20000 (eP185).1 (eP185).2.1 h0) = true := by kernel_rfl
end Go.Proofs.YtodpcmfblpmheaaGreatDoor
