/- PromoteNames: calls, as the abstract machine reckons them, part 6. -/
import Derived.Test.YtodpcmfblpmheaaGreatDoorPV
namespace Go.Proofs.YtodpcmfblpmheaaGreatDoor
open Go.Ax
theorem runP96 : pureOkN 1000 (eP96).2.2 (callAll Tryz.prog (cx [eP34, eP46, eP53, eP56, eP59, eP60, eP61, eP63, eP64, eP65, eP66, eP67, eP68, eP69, eP70, eP71, eP72, eP73, eP74, eP75, eP76, eP77, eP78, eP79, eP80, eP81, eP82, eP83, eP84, eP85, eP86, eP87, eP88, eP89, eP90, eP91, eP92, eP93, eP94, eP95]) nkP 20000 (eP96).1 (eP96).2.1) = true := by kernel_rfl
theorem runP97 : pureOk 1000 (eP97).2.2 (call Tryz.prog (cx [eP33]) 20000 (eP97).1 (eP97).2.1 h0) = true := by kernel_rfl
theorem runP98 : pureOk 1000 (eP98).2.2 (call Tryz.prog (cx [eP34]) 20000 (eP98).1 (eP98).2.1 h0) = true := by kernel_rfl
theorem runP99 : pureOk 1000 (eP99).2.2 (call Tryz.prog (cx [eP33]) 20000 (eP99).1 (eP99).2.1 h0) = true := by kernel_rfl
theorem runP100 : pureOk 1000 (eP100).2.2 (call Tryz.prog (cx [eP53, eP96, eP97, eP98, eP99]) 20000 (eP100).1 (eP100).2.1 h0) = true := by kernel_rfl
theorem runP101 : pureOk 1000 (eP101).2.2 (call Tryz.prog (cx [eP34, eP46, eP53, eP56, eP59]) 20000 (eP101).1 (eP101).2.1 h0) = true := by kernel_rfl
end Go.Proofs.YtodpcmfblpmheaaGreatDoor
