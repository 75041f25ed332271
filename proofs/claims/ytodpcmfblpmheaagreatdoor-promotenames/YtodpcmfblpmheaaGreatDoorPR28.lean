/- PromoteNames: calls, as the abstract machine reckons them, part 28. -/
import Derived.Test.YtodpcmfblpmheaaGreatDoorPV
namespace Go.Proofs.YtodpcmfblpmheaaGreatDoor
open Go.Ax
theorem runP345 : pureOk 1000 (eP345).2.2 (call Tryz.prog (cx [eP14, eP20, eP21, eP25, eP26, eP40, eP51, eP333, eP335, eP337, eP338, eP339, eP341, eP343, eP344]) 20000 (eP345).1 (eP345).2.1 h0) = true := by kernel_rfl
theorem runP346 : pureOk 1000 (eP346).2.2 (call Tryz.prog (cx [eP345]) 20000 (eP346).1 (eP346).2.1 h0) = true := by kernel_rfl
theorem runP347 : pureOk 1000 (eP347).2.2 (call Tryz.prog (cx []) 20000 (eP347).1 (eP347).2.1 h0) = true := by kernel_rfl
theorem runP348 : pureOk 1000 (eP348).2.2 (call Tryz.prog (cx [eP59, eP334, eP340, eP346]) 20000 (eP348).1 (eP348).2.1 h0) = true := by kernel_rfl
theorem runP349 : pureOk 1000 (eP349).2.2 (call Tryz.prog (cx []) 20000 (eP349).1 (eP349).2.1 h0) = true := by kernel_rfl
theorem runP350 : pureOk 1000 (eP350).2.2 (call Tryz.prog (cx [eP349]) 20000 (eP350).1 (eP350).2.1 h0) = true := by kernel_rfl
theorem runP351 : pureOk 1000 (eP351).2.2 (call Tryz.prog (cx [eP349]) 20000 (eP351).1 (eP351).2.1 h0) = true := by kernel_rfl
theorem runP352 : pureOk 1000 (eP352).2.2 (call Tryz.prog (cx [eP349]) 20000 (eP352).1 (eP352).2.1 h0) = true := by kernel_rfl
theorem runP353 : pureOk 1000 (eP353).2.2 (call Tryz.prog (cx [eP349]) 20000 (eP353).1 (eP353).2.1 h0) = true := by kernel_rfl
theorem runP354 : pureOk 1000 (eP354).2.2 (call Tryz.prog (cx [eP349]) 20000 (eP354).1 (eP354).2.1 h0) = true := by kernel_rfl
theorem runP355 : pureOk 1000 (eP355).2.2 (call Tryz.prog (cx [eP349]) 20000 (eP355).1 (eP355).2.1 h0) = true := by kernel_rfl
theorem runP356 : pureOk 1000 (eP356).2.2 (call Tryz.prog (cx [eP349]) 20000 (eP356).1 (eP356).2.1 h0) = true := by kernel_rfl
theorem runP357 : pureOk 1000 (eP357).2.2 (call Tryz.prog (cx [eP349]) 20000 (eP357).1 (eP357).2.1 h0) = true := by kernel_rfl
theorem runP358 : pureOkN 1000 (eP358).2.2 (callAll Tryz.prog (cx [eP59, eP64, eP65, eP66, eP334, eP340, eP346, eP347, eP348, eP350, eP351, eP352, eP353, eP354, eP355, eP356, eP357]) nkP 20000 (eP358).1 (eP358).2.1) = true := by kernel_rfl
theorem runP359 : pureOk 1000 (eP359).2.2 (call Tryz.prog (cx [eP333]) 20000 (eP359).1 (eP359).2.1 h0) = true := by kernel_rfl
theorem runP360 : pureOk 1000 (eP360).2.2 (call Tryz.prog (cx [eP334]) 20000 (eP360).1 (eP360).2.1 h0) = true := by kernel_rfl
theorem runP361 : pureOk 1000 (eP361).2.2 (call Tryz.prog (cx [eP346, eP358, eP359, eP360]) 20000 (eP361).1 (eP361).2.1 h0) = true := by kernel_rfl
theorem runP362 : pureOk 1000 (eP362).2.2 (call Tryz.prog (cx [eP59, eP334, eP340, eP346]) 20000 (eP362).1 (eP362).2.1 h0) = true := by kernel_rfl
theorem runP363 : pureOk 1000 (eP363).2.2 (call Tryz.prog (cx [eP358, eP362]) 20000 (eP363).1 (eP363).2.1 h0) = true := by kernel_rfl
theorem runP364 : pureOk 1000 (eP364).2.2 (call Tryz.prog (cx [eP59, eP334, eP340, eP346]) 20000 (eP364).1 (eP364).2.1 h0) = true := by kernel_rfl
theorem runP365 : pureOk 1000 (eP365).2.2 (call Tryz.prog (cx [eP59, eP104, eP334, eP340, eP346, eP358, eP363, eP364]) 20000 (eP365).1 (eP365).2.1 h0) = true := by kernel_rfl
theorem runP366 : pureOk 1000 (eP366).2.2 (call Tryz.prog (cx [eP361, eP365]) 20000 (eP366).1 (eP366).2.1 h0) = true := by kernel_rfl
theorem runP367 : pureOk 1000 (eP367).2.2 (call Tryz.prog (cx [eP59, eP334, eP340, eP346]) 20000 (eP367).1 (eP367).2.1 h0) = true := by kernel_rfl
end Go.Proofs.YtodpcmfblpmheaaGreatDoor
