/- PipeNames: calls, as the abstract machine reckons them, part 1. -/
import Derived.Test.YtklbkcldlcnidaaGreatDoorPV
namespace Go.Proofs.YtklbkcldlcnidaaGreatDoor
open Go.Ax
theorem runP33 : pureOk 1000 (eP33).2.2 (call Tryz.prog (cx [eP0, eP3, eP6, eP7, eP8, eP9, eP12, eP13, eP14, eP15, eP16, eP17, eP18, eP19, eP20, eP21, eP24, eP25, eP26, eP27, eP28, eP29, eP30, eP31, eP32]) 20000 (eP33).1 (eP33).2.1 h0) = true := by kernel_rfl
theorem runP34 : pureOk 1000 (eP34).2.2 (call Tryz.prog (cx []) 20000 (eP34).1 (eP34).2.1 h0) = true := by kernel_rfl
theorem runP35 : pureOk 1000 (eP35).2.2 (call Tryz.prog (cx [eP34]) 20000 (eP35).1 (eP35).2.1 h0) = true := by kernel_rfl
theorem runP36 : pureOk 1000 (eP36).2.2 (call Tryz.prog (cx [eP35]) 20000 (eP36).1 (eP36).2.1 h0) = true := by kernel_rfl
theorem runP37 : pureOk 1000 (eP37).2.2 (call Tryz.prog (cx [eP36]) 20000 (eP37).1 (eP37).2.1 h0) = true := by kernel_rfl
theorem runP38 : pureOk 1000 (eP38).2.2 (call Tryz.prog (cx [eP36]) 20000 (eP38).1 (eP38).2.1 h0) = true := by kernel_rfl
theorem runP39 : pureOk 1000 (eP39).2.2 (call Tryz.prog (cx [eP37, eP38]) 20000 (eP39).1 (eP39).2.1 h0) = true := by kernel_rfl
theorem runP40 : pureOk 1000 (eP40).2.2 (call Tryz.prog (cx [eP36]) 20000 (eP40).1 (eP40).2.1 h0) = true := by kernel_rfl
theorem runP41 : pureOk 1000 (eP41).2.2 (call Tryz.prog (cx []) 20000 (eP41).1 (eP41).2.1 h0) = true := by kernel_rfl
theorem runP42 : pureOk 1000 (eP42).2.2 (call Tryz.prog (cx []) 20000 (eP42).1 (eP42).2.1 h0) = true := by kernel_rfl
theorem runP43 : pureOk 1000 (eP43).2.2 (call Tryz.prog (cx []) 20000 (eP43).1 (eP43).2.1 h0) = true := by kernel_rfl
theorem runP44 : pureOk 1000 (eP44).2.2 (call Tryz.prog (cx []) 20000 (eP44).1 (eP44).2.1 h0) = true := by kernel_rfl
theorem runP45 : pureOk 1000 (eP45).2.2 (call Tryz.prog (cx []) 20000 (eP45).1 (eP45).2.1 h0) = true := by kernel_rfl
theorem runP46 : pureOk 1000 (eP46).2.2 (call Tryz.prog (cx []) 20000 (eP46).1 (eP46).2.1 h0) = true := by kernel_rfl
theorem runP47 : pureOk 1000 (eP47).2.2 (call Tryz.prog (cx [eP35]) 20000 (eP47).1 (eP47).2.1 h0) = true := by kernel_rfl
theorem runP48 : pureOk 1000 (eP48).2.2 (call Tryz.prog (cx [eP47]) 20000 (eP48).1 (eP48).2.1 h0) = true := by kernel_rfl
theorem runP49 : pureOk 1000 (eP49).2.2 (call Tryz.prog (cx [eP47]) 20000 (eP49).1 (eP49).2.1 h0) = true := by kernel_rfl
theorem runP50 : pureOk 1000 (eP50).2.2 (call Tryz.prog (cx [eP48, eP49]) 20000 (eP50).1 (eP50).2.1 h0) = true := by kernel_rfl
theorem runP51 : pureOk 1000 (eP51).2.2 (call Tryz.prog (cx [eP47]) 20000 (eP51).1 (eP51).2.1 h0) = true := by kernel_rfl
theorem runP52 : pureOk 1000 (eP52).2.2 (call Tryz.prog (cx []) 20000 (eP52).1 (eP52).2.1 h0) = true := by kernel_rfl
theorem runP53 : pureOk 1000 (eP53).2.2 (call Tryz.prog (cx [eP8, eP14, eP15, eP18, eP20, eP25, eP27, eP29, eP30, eP31, eP32, eP35, eP37, eP39, eP40, eP41, eP42, eP43, eP44, eP45, eP46, eP48, eP50, eP51, eP52]) 20000 (eP53).1 (eP53).2.1 h0) = true := by kernel_rfl
theorem runP54 : pureOk 1000 (eP54).2.2 (call Tryz.prog (cx []) 20000 (eP54).1 (eP54).2.1 h0) = true := by kernel_rfl
theorem runP55 : pureOk 1000 (eP55).2.2 (call Tryz.prog (cx [eP54]) 20000 (eP55).1 (eP55).2.1 h0) = true := by kernel_rfl
theorem runP56 : pureOk 1000 (eP56).2.2 (call Tryz.prog (cx [eP53]) 20000 (eP56).1 (eP56).2.1 h0) = true := by kernel_rfl
theorem runP57 : pureOk 1000 (eP57).2.2 (call Tryz.prog (cx [eP34]) 20000 (eP57).1 (eP57).2.1 h0) = true := by kernel_rfl
theorem runP58 : pureOk 1000 (eP58).2.2 (call Tryz.prog (cx []) 20000 (eP58).1 (eP58).2.1 h0) = true := by kernel_rfl
theorem runP59 : pureOk 1000 (eP59).2.2 (call Tryz.prog (cx [eP57, eP58]) 20000 (eP59).1 (eP59).2.1 h0) = true := by kernel_rfl
theorem runP60 : pureOk 1000 (eP60).2.2 (call Tryz.prog (cx []) 20000 (eP60).1 (eP60).2.1 h0) = true := by kernel_rfl
end Go.Proofs.YtklbkcldlcnidaaGreatDoor
