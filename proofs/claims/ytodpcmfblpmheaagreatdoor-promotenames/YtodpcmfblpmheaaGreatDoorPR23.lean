/- PromoteNames: calls, as the abstract machine reckons them, part 23. -/
import Derived.Test.YtodpcmfblpmheaaGreatDoorPV
namespace Go.Proofs.YtodpcmfblpmheaaGreatDoor
open Go.Ax
theorem runP311 : pureOk 1000 (eP311).2.2 (call Tryz.prog (cx [eP59, eP205, eP220, eP226]) 20000 (eP311).1 (eP311).2.1 h0) = true := by kernel_rfl
theorem runP312 : pureOk 1000 (eP312).2.2 (call Tryz.prog (cx [eP64]) 20000 (eP312).1 (eP312).2.1 h0) = true := by kernel_rfl
theorem runP313 : pureOk 1000 (eP313).2.2 (call Tryz.prog (cx []) 20000 (eP313).1 (eP313).2.1 h0) = true := by kernel_rfl
theorem runP314 : pureOk 1000 (eP314).2.2 (call Tryz.prog (cx []) 20000 (eP314).1 (eP314).2.1 h0) = true := by kernel_rfl
theorem runP315 : pureOk 1000 (eP315).2.2 (call Tryz.prog (cx [eP313, eP314]) 20000 (eP315).1 (eP315).2.1 h0) = true := by kernel_rfl
theorem runP316 : pureOk 1000 (eP316).2.2 (call Tryz.prog (cx [eP226, eP250, eP251, eP252, eP253, eP254, eP308, eP309, eP310, eP311, eP312, eP315]) 20000 (eP316).1 (eP316).2.1 h0) = true := by kernel_rfl
theorem runP317 : pureOk 1000 (eP317).2.2 (call Tryz.prog (cx [eP59, eP205, eP220, eP226]) 20000 (eP317).1 (eP317).2.1 h0) = true := by kernel_rfl
theorem runP318 : pureOk 1000 (eP318).2.2 (call Tryz.prog (cx [eP250, eP317]) 20000 (eP318).1 (eP318).2.1 h0) = true := by kernel_rfl
theorem runP319 : pureOk 1000 (eP319).2.2 (call Tryz.prog (cx [eP59, eP205, eP220, eP226]) 20000 (eP319).1 (eP319).2.1 h0) = true := by kernel_rfl
theorem runP320 : pureOk 1000 (eP320).2.2 (call Tryz.prog (cx [eP59, eP104, eP175, eP176, eP205, eP220, eP226, eP250, eP318, eP319]) 20000 (eP320).1 (eP320).2.1 h0) = true := by kernel_rfl
theorem runP321 : pureOk 1000 (eP321).2.2 (call Tryz.prog (cx [eP316, eP320]) 20000 (eP321).1 (eP321).2.1 h0) = true := by kernel_rfl
theorem runP322 : pureOk 1000 (eP322).2.2 (call Tryz.prog (cx [eP59, eP205, eP220, eP226]) 20000 (eP322).1 (eP322).2.1 h0) = true := by kernel_rfl
end Go.Proofs.YtodpcmfblpmheaaGreatDoor
