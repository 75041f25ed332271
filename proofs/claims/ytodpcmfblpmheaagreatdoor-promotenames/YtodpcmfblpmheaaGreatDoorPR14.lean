/- PromoteNames: calls, as the abstract machine reckons them, part 14. -/
import Derived.Test.YtodpcmfblpmheaaGreatDoorPV
namespace Go.Proofs.YtodpcmfblpmheaaGreatDoor
open Go.Ax
theorem runP184 : pureOk 1000 (eP184).2.2 (call Tryz.prog (cx [eP17, eP20, eP21, eP41, eP116, eP121, eP122, eP123, eP124, eP127, eP136, eP146, eP182, eP183]) 20000 (eP184).1 (eP184).2.1 h0) = true := by kernel_rfl
end Go.Proofs.YtodpcmfblpmheaaGreatDoor
