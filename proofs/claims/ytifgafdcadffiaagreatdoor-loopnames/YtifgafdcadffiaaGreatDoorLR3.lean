/- LoopNames: calls, as the abstract machine reckons them, part 3. -/
import Derived.Test.YtifgafdcadffiaaGreatDoorLV
namespace Go.Proofs.YtifgafdcadffiaaGreatDoor
open Go.Ax
theorem runL50 : pureOk 1000 (eL50).2.2 (call Tryz.prog (cx [eL49]) 20000 (eL50).1 (eL50).2.1 h0) = true := by kernel_rfl
theorem runL51 : pureOk 1000 (eL51).2.2 (call Tryz.prog (cx [eL50]) 20000 (eL51).1 (eL51).2.1 h0) = true := by kernel_rfl
theorem runL52 : pureOk 1000 (eL52).2.2 (call Tryz.prog (cx [eL51]) 20000 (eL52).1 (eL52).2.1 h0) = true := by kernel_rfl
theorem runL53 : pureOk 1000 (eL53).2.2 (call Tryz.prog (cx [eL51]) 20000 (eL53).1 (eL53).2.1 h0) = true := by kernel_rfl
theorem runL54 : pureOk 1000 (eL54).2.2 (call Tryz.prog (cx [eL52, eL53]) 20000 (eL54).1 (eL54).2.1 h0) = true := by kernel_rfl
theorem runL55 : pureOk 1000 (eL55).2.2 (call Tryz.prog (cx [eL51]) 20000 (eL55).1 (eL55).2.1 h0) = true := by kernel_rfl
theorem runL56 : pureOk 1000 (eL56).2.2 (call Tryz.prog (cx []) 20000 (eL56).1 (eL56).2.1 h0) = true := by kernel_rfl
theorem runL57 : pureOk 1000 (eL57).2.2 (call Tryz.prog (cx []) 20000 (eL57).1 (eL57).2.1 h0) = true := by kernel_rfl
theorem runL58 : pureOk 1000 (eL58).2.2 (call Tryz.prog (cx []) 20000 (eL58).1 (eL58).2.1 h0) = true := by kernel_rfl
theorem runL59 : pureOk 1000 (eL59).2.2 (call Tryz.prog (cx [eL51]) 20000 (eL59).1 (eL59).2.1 h0) = true := by kernel_rfl
theorem runL60 : pureOk 1000 (eL60).2.2 (call Tryz.prog (cx []) 20000 (eL60).1 (eL60).2.1 h0) = true := by kernel_rfl
theorem runL61 : pureOk 1000 (eL61).2.2 (call Tryz.prog (cx []) 20000 (eL61).1 (eL61).2.1 h0) = true := by kernel_rfl
theorem runL62 : pureOk 1000 (eL62).2.2 (call Tryz.prog (cx []) 20000 (eL62).1 (eL62).2.1 h0) = true := by kernel_rfl
theorem runL63 : pureOk 1000 (eL63).2.2 (call Tryz.prog (cx [eL51]) 20000 (eL63).1 (eL63).2.1 h0) = true := by kernel_rfl
theorem runL64 : pureOk 1000 (eL64).2.2 (call Tryz.prog (cx []) 20000 (eL64).1 (eL64).2.1 h0) = true := by kernel_rfl
theorem runL65 : pureOk 1000 (eL65).2.2 (call Tryz.prog (cx []) 20000 (eL65).1 (eL65).2.1 h0) = true := by kernel_rfl
theorem runL66 : pureOk 1000 (eL66).2.2 (call Tryz.prog (cx []) 20000 (eL66).1 (eL66).2.1 h0) = true := by kernel_rfl
theorem runL67 : pureOk 1000 (eL67).2.2 (call Tryz.prog (cx [eL51]) 20000 (eL67).1 (eL67).2.1 h0) = true := by kernel_rfl
theorem runL68 : pureOk 1000 (eL68).2.2 (call Tryz.prog (cx []) 20000 (eL68).1 (eL68).2.1 h0) = true := by kernel_rfl
end Go.Proofs.YtifgafdcadffiaaGreatDoor
