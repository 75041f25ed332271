/- PromoteNames: calls, as the abstract machine reckons them, part 30. -/
import Derived.Test.YtodpcmfblpmheaaGreatDoorPV
namespace Go.Proofs.YtodpcmfblpmheaaGreatDoor
open Go.Ax
theorem runP370 : pureOk 1000 (eP370).2.2 (call Tryz.prog (cx [eP14, eP20, eP21, eP25, eP26, eP40, eP121, eP122, eP123, eP125, eP127, eP333]) 20000 (eP370).1 (eP370).2.1 h0) = true := by kernel_rfl
end Go.Proofs.YtodpcmfblpmheaaGreatDoor
