/- StepNames: calls, as the abstract machine reckons them, part 16. -/
import Derived.Test.YtciljbmodhjpiaaGreatDoorSV
namespace Go.Proofs.YtciljbmodhjpiaaGreatDoor
open Go.Ax
theorem runS86 : pureOk 1000 (eS86).2.2 (call Tryz.prog (cx [eS85]) 20000 (eS86).1 (eS86).2.1 h0) = true := by kernel_rfl
theorem runS87 : pureOk 1000 (eS87).2.2 (call Tryz.prog (cx [eS2]) 20000 (eS87).1 (eS87).2.1 h0) = true := by kernel_rfl
theorem runS88 : pureOk 1000 (eS88).2.2 (call Tryz.prog (cx [eS87]) 20000 (eS88).1 (eS88).2.1 h0) = true := by kernel_rfl
theorem runS89 : pureOk 1000 (eS89).2.2 (call Tryz.prog (cx [eS87]) 20000 (eS89).1 (eS89).2.1 h0) = true := by kernel_rfl
theorem runS90 : pureOk 1000 (eS90).2.2 (call Tryz.prog (cx [eS88, eS89]) 20000 (eS90).1 (eS90).2.1 h0) = true := by kernel_rfl
theorem runS91 : pureOk 1000 (eS91).2.2 (call Tryz.prog (cx [eS87]) 20000 (eS91).1 (eS91).2.1 h0) = true := by kernel_rfl
theorem runS92 : pureOk 1000 (eS92).2.2 (call Tryz.prog (cx [eS87]) 20000 (eS92).1 (eS92).2.1 h0) = true := by kernel_rfl
theorem runS93 : pureOk 1000 (eS93).2.2 (call Tryz.prog (cx [eS87]) 20000 (eS93).1 (eS93).2.1 h0) = true := by kernel_rfl
theorem runS94 : pureOk 1000 (eS94).2.2 (call Tryz.prog (cx [eS92, eS93]) 20000 (eS94).1 (eS94).2.1 h0) = true := by kernel_rfl
theorem runS95 : pureOk 1000 (eS95).2.2 (call Tryz.prog (cx [eS87]) 20000 (eS95).1 (eS95).2.1 h0) = true := by kernel_rfl
theorem runS96 : pureOk 1000 (eS96).2.2 (call Tryz.prog (cx [eS87, eS88, eS90, eS91, eS92, eS94, eS95]) 20000 (eS96).1 (eS96).2.1 h0) = true := by kernel_rfl
theorem runS97 : pureOk 1000 (eS97).2.2 (call Tryz.prog (cx [eS2, eS86, eS87, eS96]) 20000 (eS97).1 (eS97).2.1 h0) = true := by kernel_rfl
theorem runS98 : pureOk 1000 (eS98).2.2 (call Tryz.prog (cx [eS97]) 20000 (eS98).1 (eS98).2.1 h0) = true := by kernel_rfl
end Go.Proofs.YtciljbmodhjpiaaGreatDoor
