/- PromoteNames: calls, as the abstract machine reckons them, part 0. -/
import Derived.Test.YtodpcmfblpmheaaGreatDoorPV
namespace Go.Proofs.YtodpcmfblpmheaaGreatDoor
open Go.Ax
theorem runP0 : pureOk 1000 (eP0).2.2 (call Tryz.prog (cx []) 20000 (eP0).1 (eP0).2.1 h0) = true := by kernel_rfl
theorem runP1 : pureOk 1000 (eP1).2.2 (call Tryz.prog (cx []) 20000 (eP1).1 (eP1).2.1 h0) = true := by kernel_rfl
theorem runP2 : pureOk 1000 (eP2).2.2 (call Tryz.prog (cx [eP1]) 20000 (eP2).1 (eP2).2.1 h0) = true := by kernel_rfl
theorem runP3 : pureOk 1000 (eP3).2.2 (call Tryz.prog (cx [eP2]) 20000 (eP3).1 (eP3).2.1 h0) = true := by kernel_rfl
theorem runP4 : pureOk 1000 (eP4).2.2 (call Tryz.prog (cx []) 20000 (eP4).1 (eP4).2.1 h0) = true := by kernel_rfl
theorem runP5 : pureOk 1000 (eP5).2.2 (call Tryz.prog (cx [eP4]) 20000 (eP5).1 (eP5).2.1 h0) = true := by kernel_rfl
end Go.Proofs.YtodpcmfblpmheaaGreatDoor
