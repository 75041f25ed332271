/- PromoteNames: calls, as the abstract machine reckons them, part 7. -/
import Derived.Test.YtodpcmfblpmheaaGreatDoorPV
namespace Go.Proofs.YtodpcmfblpmheaaGreatDoor
open Go.Ax
theorem runP102 : pureOk 1000 (eP102).2.2 (call Tryz.prog (cx [eP96, eP101]) 20000 (eP102).1 (eP102).2.1 h0) = true := by kernel_rfl
theorem runP103 : pureOk 1000 (eP103).2.2 (call Tryz.prog (cx [eP34, eP46, eP53, eP56, eP59]) 20000 (eP103).1 (eP103).2.1 h0) = true := by kernel_rfl
theorem runP104 : pureOk 1000 (eP104).2.2 (call Tryz.prog (cx [eP64]) 20000 (eP104).1 (eP104).2.1 h0) = true := by kernel_rfl
theorem runP105 : pureOk 1000 (eP105).2.2 (call Tryz.prog (cx []) 20000 (eP105).1 (eP105).2.1 h0) = true := by kernel_rfl
theorem runP106 : pureOk 1000 (eP106).2.2 (call Tryz.prog (cx [eP105]) 20000 (eP106).1 (eP106).2.1 h0) = true := by kernel_rfl
theorem runP107 : pureOk 1000 (eP107).2.2 (call Tryz.prog (cx []) 20000 (eP107).1 (eP107).2.1 h0) = true := by kernel_rfl
theorem runP108 : pureOk 1000 (eP108).2.2 (call Tryz.prog (cx [eP107]) 20000 (eP108).1 (eP108).2.1 h0) = true := by kernel_rfl
theorem runP109 : pureOk 1000 (eP109).2.2 (call Tryz.prog (cx []) 20000 (eP109).1 (eP109).2.1 h0) = true := by kernel_rfl
theorem runP110 : pureOk 1000 (eP110).2.2 (call Tryz.prog (cx [eP109]) 20000 (eP110).1 (eP110).2.1 h0) = true := by kernel_rfl
theorem runP111 : pureOk 1000 (eP111).2.2 (call Tryz.prog (cx [eP34, eP46, eP53, eP56, eP59, eP96, eP102, eP103, eP104, eP106, eP108, eP110]) 20000 (eP111).1 (eP111).2.1 h0) = true := by kernel_rfl
theorem runP112 : pureOk 1000 (eP112).2.2 (call Tryz.prog (cx [eP100, eP111]) 20000 (eP112).1 (eP112).2.1 h0) = true := by kernel_rfl
theorem runP113 : pureOk 1000 (eP113).2.2 (call Tryz.prog (cx []) 20000 (eP113).1 (eP113).2.1 h0) = true := by kernel_rfl
theorem runP114 : pureOk 1000 (eP114).2.2 (call Tryz.prog (cx [eP34, eP46, eP53, eP56, eP59]) 20000 (eP114).1 (eP114).2.1 h0) = true := by kernel_rfl
theorem runP115 : pureOk 1000 (eP115).2.2 (call Tryz.prog (cx []) 20000 (eP115).1 (eP115).2.1 h0) = true := by kernel_rfl
theorem runP116 : pureOk 1000 (eP116).2.2 (call Tryz.prog (cx []) 20000 (eP116).1 (eP116).2.1 h0) = true := by kernel_rfl
theorem runP117 : pureOk 1000 (eP117).2.2 (call Tryz.prog (cx []) 20000 (eP117).1 (eP117).2.1 h0) = true := by kernel_rfl
theorem runP118 : pureOk 1000 (eP118).2.2 (call Tryz.prog (cx [eP34, eP46, eP53, eP56, eP59]) 20000 (eP118).1 (eP118).2.1 h0) = true := by kernel_rfl
end Go.Proofs.YtodpcmfblpmheaaGreatDoor
