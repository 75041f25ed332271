/- PromoteNames: calls, as the abstract machine reckons them, part 5. -/
import Derived.Test.YtodpcmfblpmheaaGreatDoorPV
namespace Go.Proofs.YtodpcmfblpmheaaGreatDoor
open Go.Ax
theorem runP85 : pureOk 1000 (eP85).2.2 (call Tryz.prog (cx []) 20000 (eP85).1 (eP85).2.1 h0) = true := by kernel_rfl
theorem runP86 : pureOk 1000 (eP86).2.2 (call Tryz.prog (cx []) 20000 (eP86).1 (eP86).2.1 h0) = true := by kernel_rfl
theorem runP87 : pureOk 1000 (eP87).2.2 (call Tryz.prog (cx []) 20000 (eP87).1 (eP87).2.1 h0) = true := by kernel_rfl
theorem runP88 : pureOk 1000 (eP88).2.2 (call Tryz.prog (cx [eP62]) 20000 (eP88).1 (eP88).2.1 h0) = true := by kernel_rfl
theorem runP89 : pureOk 1000 (eP89).2.2 (call Tryz.prog (cx [eP62]) 20000 (eP89).1 (eP89).2.1 h0) = true := by kernel_rfl
theorem runP90 : pureOk 1000 (eP90).2.2 (call Tryz.prog (cx [eP62]) 20000 (eP90).1 (eP90).2.1 h0) = true := by kernel_rfl
theorem runP91 : pureOk 1000 (eP91).2.2 (call Tryz.prog (cx [eP62]) 20000 (eP91).1 (eP91).2.1 h0) = true := by kernel_rfl
theorem runP92 : pureOk 1000 (eP92).2.2 (call Tryz.prog (cx [eP62]) 20000 (eP92).1 (eP92).2.1 h0) = true := by kernel_rfl
theorem runP93 : pureOk 1000 (eP93).2.2 (call Tryz.prog (cx [eP62]) 20000 (eP93).1 (eP93).2.1 h0) = true := by kernel_rfl
theorem runP94 : pureOk 1000 (eP94).2.2 (call Tryz.prog (cx [eP62]) 20000 (eP94).1 (eP94).2.1 h0) = true := by kernel_rfl
theorem runP95 : pureOk 1000 (eP95).2.2 (call Tryz.prog (cx [eP62]) 20000 (eP95).1 (eP95).2.1 h0) = true := by kernel_rfl
end Go.Proofs.YtodpcmfblpmheaaGreatDoor
