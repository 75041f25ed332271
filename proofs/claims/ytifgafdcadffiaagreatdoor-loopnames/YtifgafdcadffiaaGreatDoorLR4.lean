/- LoopNames: calls, as the abstract machine reckons them, part 4. -/
import Derived.Test.YtifgafdcadffiaaGreatDoorLV
namespace Go.Proofs.YtifgafdcadffiaaGreatDoor
open Go.Ax
theorem runL69 : pureOk 1000 (eL69).2.2 (call Tryz.prog (cx [eL11, eL14, eL15, eL19, eL38, eL40, eL50, eL52, eL54, eL55, eL56, eL57, eL58, eL59, eL60, eL61, eL62, eL63, eL64, eL65, eL66, eL67, eL68]) 20000 (eL69).1 (eL69).2.1 h0) = true := by kernel_rfl
theorem runL70 : pureOk 1000 (eL70).2.2 (call Tryz.prog (cx [eL69]) 20000 (eL70).1 (eL70).2.1 h0) = true := by kernel_rfl
theorem runL71 : pureOk 1000 (eL71).2.2 (call Tryz.prog (cx [eL49]) 20000 (eL71).1 (eL71).2.1 h0) = true := by kernel_rfl
theorem runL72 : pureOk 1000 (eL72).2.2 (call Tryz.prog (cx []) 20000 (eL72).1 (eL72).2.1 h0) = true := by kernel_rfl
theorem runL73 : pureOk 1000 (eL73).2.2 (call Tryz.prog (cx [eL71, eL72]) 20000 (eL73).1 (eL73).2.1 h0) = true := by kernel_rfl
theorem runL74 : pureOk 1000 (eL74).2.2 (call Tryz.prog (cx []) 20000 (eL74).1 (eL74).2.1 h0) = true := by kernel_rfl
theorem runL75 : pureOk 1000 (eL75).2.2 (call Tryz.prog (cx [eL51, eL70, eL73]) 20000 (eL75).1 (eL75).2.1 h0) = true := by kernel_rfl
theorem runL76 : pureOk 1000 (eL76).2.2 (call Tryz.prog (cx []) 20000 (eL76).1 (eL76).2.1 h0) = true := by kernel_rfl
theorem runL77 : pureOk 1000 (eL77).2.2 (call Tryz.prog (cx [eL76]) 20000 (eL77).1 (eL77).2.1 h0) = true := by kernel_rfl
theorem runL78 : pureOk 1000 (eL78).2.2 (call Tryz.prog (cx []) 20000 (eL78).1 (eL78).2.1 h0) = true := by kernel_rfl
theorem runL79 : pureOk 1000 (eL79).2.2 (call Tryz.prog (cx []) 20000 (eL79).1 (eL79).2.1 h0) = true := by kernel_rfl
theorem runL80 : pureOk 1000 (eL80).2.2 (call Tryz.prog (cx []) 20000 (eL80).1 (eL80).2.1 h0) = true := by kernel_rfl
theorem runL81 : pureOk 1000 (eL81).2.2 (call Tryz.prog (cx [eL76]) 20000 (eL81).1 (eL81).2.1 h0) = true := by kernel_rfl
theorem runL82 : pureOk 1000 (eL82).2.2 (call Tryz.prog (cx [eL76]) 20000 (eL82).1 (eL82).2.1 h0) = true := by kernel_rfl
theorem runL83 : pureOk 1000 (eL83).2.2 (call Tryz.prog (cx []) 20000 (eL83).1 (eL83).2.1 h0) = true := by kernel_rfl
theorem runL84 : pureOk 1000 (eL84).2.2 (call Tryz.prog (cx [eL76]) 20000 (eL84).1 (eL84).2.1 h0) = true := by kernel_rfl
theorem runL85 : pureOk 1000 (eL85).2.2 (call Tryz.prog (cx []) 20000 (eL85).1 (eL85).2.1 h0) = true := by kernel_rfl
theorem runL86 : pureOk 1000 (eL86).2.2 (call Tryz.prog (cx []) 20000 (eL86).1 (eL86).2.1 h0) = true := by kernel_rfl
theorem runL87 : pureOk 1000 (eL87).2.2 (call Tryz.prog (cx []) 20000 (eL87).1 (eL87).2.1 h0) = true := by kernel_rfl
theorem runL88 : pureOk 1000 (eL88).2.2 (call Tryz.prog (cx []) 20000 (eL88).1 (eL88).2.1 h0) = true := by kernel_rfl
theorem runL89 : pureOk 1000 (eL89).2.2 (call Tryz.prog (cx []) 20000 (eL89).1 (eL89).2.1 h0) = true := by kernel_rfl
theorem runL90 : pureOk 1000 (eL90).2.2 (call Tryz.prog (cx []) 20000 (eL90).1 (eL90).2.1 h0) = true := by kernel_rfl
theorem runL91 : pureOk 1000 (eL91).2.2 (call Tryz.prog (cx []) 20000 (eL91).1 (eL91).2.1 h0) = true := by kernel_rfl
theorem runL92 : pureOk 1000 (eL92).2.2 (call Tryz.prog (cx [eL76]) 20000 (eL92).1 (eL92).2.1 h0) = true := by kernel_rfl
theorem runL93 : pureOk 1000 (eL93).2.2 (call Tryz.prog (cx [eL76]) 20000 (eL93).1 (eL93).2.1 h0) = true := by kernel_rfl
end Go.Proofs.YtifgafdcadffiaaGreatDoor
