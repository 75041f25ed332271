/- PromoteNames: calls, as the abstract machine reckons them, part 3. -/
import Derived.Test.YtodpcmfblpmheaaGreatDoorPV
namespace Go.Proofs.YtodpcmfblpmheaaGreatDoor
open Go.Ax
theorem runP42 : pureOk 1000 (eP42).2.2 (call Tryz.prog (cx []) 20000 (eP42).1 (eP42).2.1 h0) = true := by kernel_rfl
theorem runP43 : pureOk 1000 (eP43).2.2 (call Tryz.prog (cx []) 20000 (eP43).1 (eP43).2.1 h0) = true := by kernel_rfl
theorem runP44 : pureOk 1000 (eP44).2.2 (call Tryz.prog (cx []) 20000 (eP44).1 (eP44).2.1 h0) = true := by kernel_rfl
theorem runP45 : pureOk 1000 (eP45).2.2 (call Tryz.prog (cx []) 20000 (eP45).1 (eP45).2.1 h0) = true := by kernel_rfl
theorem runP46 : pureOk 1000 (eP46).2.2 (call Tryz.prog (cx [eP33]) 20000 (eP46).1 (eP46).2.1 h0) = true := by kernel_rfl
theorem runP47 : pureOk 1000 (eP47).2.2 (call Tryz.prog (cx [eP46]) 20000 (eP47).1 (eP47).2.1 h0) = true := by kernel_rfl
theorem runP48 : pureOk 1000 (eP48).2.2 (call Tryz.prog (cx [eP46]) 20000 (eP48).1 (eP48).2.1 h0) = true := by kernel_rfl
theorem runP49 : pureOk 1000 (eP49).2.2 (call Tryz.prog (cx [eP47, eP48]) 20000 (eP49).1 (eP49).2.1 h0) = true := by kernel_rfl
theorem runP50 : pureOk 1000 (eP50).2.2 (call Tryz.prog (cx [eP46]) 20000 (eP50).1 (eP50).2.1 h0) = true := by kernel_rfl
theorem runP51 : pureOk 1000 (eP51).2.2 (call Tryz.prog (cx []) 20000 (eP51).1 (eP51).2.1 h0) = true := by kernel_rfl
theorem runP52 : pureOk 1000 (eP52).2.2 (call Tryz.prog (cx [eP14, eP17, eP20, eP21, eP25, eP28, eP29, eP33, eP35, eP37, eP38, eP39, eP40, eP41, eP42, eP43, eP44, eP45, eP47, eP49, eP50, eP51]) 20000 (eP52).1 (eP52).2.1 h0) = true := by kernel_rfl
theorem runP53 : pureOk 1000 (eP53).2.2 (call Tryz.prog (cx [eP52]) 20000 (eP53).1 (eP53).2.1 h0) = true := by kernel_rfl
theorem runP54 : pureOk 1000 (eP54).2.2 (call Tryz.prog (cx [eP32]) 20000 (eP54).1 (eP54).2.1 h0) = true := by kernel_rfl
theorem runP55 : pureOk 1000 (eP55).2.2 (call Tryz.prog (cx []) 20000 (eP55).1 (eP55).2.1 h0) = true := by kernel_rfl
theorem runP56 : pureOk 1000 (eP56).2.2 (call Tryz.prog (cx [eP54, eP55]) 20000 (eP56).1 (eP56).2.1 h0) = true := by kernel_rfl
theorem runP57 : pureOk 1000 (eP57).2.2 (call Tryz.prog (cx [eP32]) 20000 (eP57).1 (eP57).2.1 h0) = true := by kernel_rfl
theorem runP58 : pureOk 1000 (eP58).2.2 (call Tryz.prog (cx []) 20000 (eP58).1 (eP58).2.1 h0) = true := by kernel_rfl
theorem runP59 : pureOk 1000 (eP59).2.2 (call Tryz.prog (cx [eP57, eP58]) 20000 (eP59).1 (eP59).2.1 h0) = true := by kernel_rfl
theorem runP60 : pureOk 1000 (eP60).2.2 (call Tryz.prog (cx []) 20000 (eP60).1 (eP60).2.1 h0) = true := by kernel_rfl
theorem runP61 : pureOk 1000 (eP61).2.2 (call Tryz.prog (cx [eP34, eP46, eP53, eP56, eP59]) 20000 (eP61).1 (eP61).2.1 h0) = true := by kernel_rfl
theorem runP62 : pureOk 1000 (eP62).2.2 (call Tryz.prog (cx []) 20000 (eP62).1 (eP62).2.1 h0) = true := by kernel_rfl
theorem runP63 : pureOk 1000 (eP63).2.2 (call Tryz.prog (cx [eP62]) 20000 (eP63).1 (eP63).2.1 h0) = true := by kernel_rfl
theorem runP64 : pureOk 1000 (eP64).2.2 (call Tryz.prog (cx []) 20000 (eP64).1 (eP64).2.1 h0) = true := by kernel_rfl
theorem runP65 : pureOk 1000 (eP65).2.2 (call Tryz.prog (cx []) 20000 (eP65).1 (eP65).2.1 h0) = true := by kernel_rfl
theorem runP66 : pureOk 1000 (eP66).2.2 (call Tryz.prog (cx []) 20000 (eP66).1 (eP66).2.1 h0) = true := by kernel_rfl
end Go.Proofs.YtodpcmfblpmheaaGreatDoor
