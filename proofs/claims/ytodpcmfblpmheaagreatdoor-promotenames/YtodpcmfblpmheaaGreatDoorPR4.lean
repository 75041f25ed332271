/- PromoteNames: calls, as the abstract machine reckons them, part 4. -/
import Derived.Test.YtodpcmfblpmheaaGreatDoorPV
namespace Go.Proofs.YtodpcmfblpmheaaGreatDoor
open Go.Ax
theorem runP67 : pureOk 1000 (eP67).2.2 (call Tryz.prog (cx [eP62]) 20000 (eP67).1 (eP67).2.1 h0) = true := by kernel_rfl
theorem runP68 : pureOk 1000 (eP68).2.2 (call Tryz.prog (cx []) 20000 (eP68).1 (eP68).2.1 h0) = true := by kernel_rfl
theorem runP69 : pureOk 1000 (eP69).2.2 (call Tryz.prog (cx []) 20000 (eP69).1 (eP69).2.1 h0) = true := by kernel_rfl
theorem runP70 : pureOk 1000 (eP70).2.2 (call Tryz.prog (cx [eP62]) 20000 (eP70).1 (eP70).2.1 h0) = true := by kernel_rfl
theorem runP71 : pureOk 1000 (eP71).2.2 (call Tryz.prog (cx []) 20000 (eP71).1 (eP71).2.1 h0) = true := by kernel_rfl
theorem runP72 : pureOk 1000 (eP72).2.2 (call Tryz.prog (cx []) 20000 (eP72).1 (eP72).2.1 h0) = true := by kernel_rfl
theorem runP73 : pureOk 1000 (eP73).2.2 (call Tryz.prog (cx [eP62]) 20000 (eP73).1 (eP73).2.1 h0) = true := by kernel_rfl
theorem runP74 : pureOk 1000 (eP74).2.2 (call Tryz.prog (cx [eP62]) 20000 (eP74).1 (eP74).2.1 h0) = true := by kernel_rfl
theorem runP75 : pureOk 1000 (eP75).2.2 (call Tryz.prog (cx [eP64]) 20000 (eP75).1 (eP75).2.1 h0) = true := by kernel_rfl
theorem runP76 : pureOk 1000 (eP76).2.2 (call Tryz.prog (cx []) 20000 (eP76).1 (eP76).2.1 h0) = true := by kernel_rfl
theorem runP77 : pureOk 1000 (eP77).2.2 (call Tryz.prog (cx []) 20000 (eP77).1 (eP77).2.1 h0) = true := by kernel_rfl
theorem runP78 : pureOk 1000 (eP78).2.2 (call Tryz.prog (cx []) 20000 (eP78).1 (eP78).2.1 h0) = true := by kernel_rfl
theorem runP79 : pureOk 1000 (eP79).2.2 (call Tryz.prog (cx []) 20000 (eP79).1 (eP79).2.1 h0) = true := by kernel_rfl
theorem runP80 : pureOk 1000 (eP80).2.2 (call Tryz.prog (cx []) 20000 (eP80).1 (eP80).2.1 h0) = true := by kernel_rfl
theorem runP81 : pureOk 1000 (eP81).2.2 (call Tryz.prog (cx []) 20000 (eP81).1 (eP81).2.1 h0) = true := by kernel_rfl
theorem runP82 : pureOk 1000 (eP82).2.2 (call Tryz.prog (cx []) 20000 (eP82).1 (eP82).2.1 h0) = true := by kernel_rfl
theorem runP83 : pureOk 1000 (eP83).2.2 (call Tryz.prog (cx []) 20000 (eP83).1 (eP83).2.1 h0) = true := by kernel_rfl
theorem runP84 : pureOk 1000 (eP84).2.2 (call Tryz.prog (cx []) 20000 (eP84).1 (eP84).2.1 h0) = true := by kernel_rfl
end Go.Proofs.YtodpcmfblpmheaaGreatDoor
