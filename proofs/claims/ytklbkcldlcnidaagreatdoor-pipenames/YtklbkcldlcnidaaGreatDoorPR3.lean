/- PipeNames: calls, as the abstract machine reckons them, part 3. -/
import Derived.Test.YtklbkcldlcnidaaGreatDoorPV
namespace Go.Proofs.YtklbkcldlcnidaaGreatDoor
open Go.Ax
theorem runP99 : pureOk 1000 (eP99).2.2 (call Tryz.prog (cx [eP8, eP18, eP20, eP25, eP27, eP29, eP30, eP31, eP32, eP41, eP42, eP43, eP44, eP45, eP46, eP52, eP86, eP88, eP90, eP91, eP92, eP93, eP95, eP97, eP98]) 20000 (eP99).1 (eP99).2.1 h0) = true := by kernel_rfl
theorem runP100 : pureOk 1000 (eP100).2.2 (call Tryz.prog (cx [eP99]) 20000 (eP100).1 (eP100).2.1 h0) = true := by kernel_rfl
theorem runP101 : pureOk 1000 (eP101).2.2 (call Tryz.prog (cx [eP59, eP87, eP94, eP100]) 20000 (eP101).1 (eP101).2.1 h0) = true := by kernel_rfl
theorem runP102 : pureOkN 1000 (eP102).2.2 (callAll Tryz.prog (cx [eP59, eP60, eP63, eP64, eP65, eP66, eP67, eP68, eP69, eP70, eP71, eP73, eP74, eP75, eP76, eP77, eP78, eP79, eP87, eP94, eP100, eP101]) (nkP []) 20000 (eP102).1 (eP102).2.1) = true := by kernel_rfl
theorem runP103 : pureOk 1000 (eP103).2.2 (call Tryz.prog (cx [eP86]) 20000 (eP103).1 (eP103).2.1 h0) = true := by kernel_rfl
theorem runP104 : pureOk 1000 (eP104).2.2 (call Tryz.prog (cx [eP87]) 20000 (eP104).1 (eP104).2.1 h0) = true := by kernel_rfl
theorem runP105 : pureOk 1000 (eP105).2.2 (call Tryz.prog (cx [eP100, eP102, eP103, eP104]) 20000 (eP105).1 (eP105).2.1 h0) = true := by kernel_rfl
theorem runP106 : pureOk 1000 (eP106).2.2 (call Tryz.prog (cx [eP59, eP87, eP94, eP100]) 20000 (eP106).1 (eP106).2.1 h0) = true := by kernel_rfl
theorem runP107 : pureOk 1000 (eP107).2.2 (call Tryz.prog (cx [eP102, eP106]) 20000 (eP107).1 (eP107).2.1 h0) = true := by kernel_rfl
theorem runP108 : pureOk 1000 (eP108).2.2 (call Tryz.prog (cx [eP59, eP87, eP94, eP100]) 20000 (eP108).1 (eP108).2.1 h0) = true := by kernel_rfl
theorem runP109 : pureOk 1000 (eP109).2.2 (call Tryz.prog (cx [eP64]) 20000 (eP109).1 (eP109).2.1 h0) = true := by kernel_rfl
theorem runP110 : pureOk 1000 (eP110).2.2 (call Tryz.prog (cx []) 20000 (eP110).1 (eP110).2.1 h0) = true := by kernel_rfl
theorem runP111 : pureOk 1000 (eP111).2.2 (call Tryz.prog (cx [eP110]) 20000 (eP111).1 (eP111).2.1 h0) = true := by kernel_rfl
theorem runP112 : pureOk 1000 (eP112).2.2 (call Tryz.prog (cx [eP59, eP87, eP94, eP100, eP102, eP107, eP108, eP109, eP111]) 20000 (eP112).1 (eP112).2.1 h0) = true := by kernel_rfl
theorem runP113 : pureOk 1000 (eP113).2.2 (call Tryz.prog (cx [eP105, eP112]) 20000 (eP113).1 (eP113).2.1 h0) = true := by kernel_rfl
theorem runP114 : pureOk 1000 (eP114).2.2 (call Tryz.prog (cx [eP59, eP87, eP94, eP100]) 20000 (eP114).1 (eP114).2.1 h0) = true := by kernel_rfl
theorem runP115 : pureOk 1000 (eP115).2.2 (call Tryz.prog (cx []) 20000 (eP115).1 (eP115).2.1 h0) = true := by kernel_rfl
theorem runP116 : pureOk 1000 (eP116).2.2 (call Tryz.prog (cx [eP59, eP87, eP94, eP100]) 20000 (eP116).1 (eP116).2.1 h0) = true := by kernel_rfl
theorem runP117 : pureOk 1000 (eP117).2.2 (call Tryz.prog (cx [eP9, eP19, eP21, eP26, eP28, eP30, eP32, eP34, eP41, eP42, eP43, eP44, eP45, eP46, eP52, eP54, eP59, eP93, eP99, eP100, eP102, eP113, eP114, eP115, eP116]) 20000 (eP117).1 (eP117).2.1 h0) = true := by kernel_rfl
theorem runP118 : pureOk 1000 (eP118).2.2 (call Tryz.prog (cx [eP117]) 20000 (eP118).1 (eP118).2.1 h0) = true := by kernel_rfl
end Go.Proofs.YtklbkcldlcnidaaGreatDoor
