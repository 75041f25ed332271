/- LoopNames: calls, as the abstract machine reckons them, part 7. -/
import Derived.Test.YtifgafdcadffiaaGreatDoorLV
namespace Go.Proofs.YtifgafdcadffiaaGreatDoor
open Go.Ax
theorem runL103 : pureOk 1000 (eL103).2.2 (call Tryz.prog (cx [eL50]) 20000 (eL103).1 (eL103).2.1 h0) = true := by kernel_rfl
theorem runL104 : pureOk 1000 (eL104).2.2 (call Tryz.prog (cx [eL51]) 20000 (eL104).1 (eL104).2.1 h0) = true := by kernel_rfl
theorem runL105 : pureOk 1000 (eL105).2.2 (call Tryz.prog (cx [eL50]) 20000 (eL105).1 (eL105).2.1 h0) = true := by kernel_rfl
theorem runL106 : pureOk 1000 (eL106).2.2 (call Tryz.prog (cx [eL51]) 20000 (eL106).1 (eL106).2.1 h0) = true := by kernel_rfl
theorem runL107 : pureOk 1000 (eL107).2.2 (call Tryz.prog (cx [eL51]) 20000 (eL107).1 (eL107).2.1 h0) = true := by kernel_rfl
theorem runL108 : pureOk 1000 (eL108).2.2 (call Tryz.prog (cx [eL51]) 20000 (eL108).1 (eL108).2.1 h0) = true := by kernel_rfl
theorem runL109 : pureOk 1000 (eL109).2.2 (call Tryz.prog (cx [eL78]) 20000 (eL109).1 (eL109).2.1 h0) = true := by kernel_rfl
theorem runL110 : pureOk 1000 (eL110).2.2 (call Tryz.prog (cx []) 20000 (eL110).1 (eL110).2.1 h0) = true := by kernel_rfl
theorem runL111 : pureOk 1000 (eL111).2.2 (call Tryz.prog (cx []) 20000 (eL111).1 (eL111).2.1 h0) = true := by kernel_rfl
theorem runL112 : pureOk 1000 (eL112).2.2 (call Tryz.prog (cx []) 20000 (eL112).1 (eL112).2.1 h0) = true := by kernel_rfl
theorem runL113 : pureOk 1000 (eL113).2.2 (call Tryz.prog (cx [eL50]) 20000 (eL113).1 (eL113).2.1 h0) = true := by kernel_rfl
theorem runL114 : pureOk 1000 (eL114).2.2 (call Tryz.prog (cx []) 20000 (eL114).1 (eL114).2.1 h0) = true := by kernel_rfl
theorem runL115 : pureOk 1000 (eL115).2.2 (call Tryz.prog (cx []) 20000 (eL115).1 (eL115).2.1 h0) = true := by kernel_rfl
theorem runL116 : pureOk 1000 (eL116).2.2 (call Tryz.prog (cx [eL50]) 20000 (eL116).1 (eL116).2.1 h0) = true := by kernel_rfl
theorem runL117 : pureOk 1000 (eL117).2.2 (call Tryz.prog (cx []) 20000 (eL117).1 (eL117).2.1 h0) = true := by kernel_rfl
theorem runL118 : pureOk 1000 (eL118).2.2 (call Tryz.prog (cx []) 20000 (eL118).1 (eL118).2.1 h0) = true := by kernel_rfl
theorem runL119 : pureOk 1000 (eL119).2.2 (call Tryz.prog (cx [eL51]) 20000 (eL119).1 (eL119).2.1 h0) = true := by kernel_rfl
theorem runL120 : pureOk 1000 (eL120).2.2 (call Tryz.prog (cx []) 20000 (eL120).1 (eL120).2.1 h0) = true := by kernel_rfl
theorem runL121 : pureOk 1000 (eL121).2.2 (call Tryz.prog (cx []) 20000 (eL121).1 (eL121).2.1 h0) = true := by kernel_rfl
theorem runL122 : pureOk 1000 (eL122).2.2 (call Tryz.prog (cx [eL78, eL86, eL121]) 20000 (eL122).1 (eL122).2.1 h0) = true := by kernel_rfl
theorem runL123 : pureOk 1000 (eL123).2.2 (call Tryz.prog (cx [eL50]) 20000 (eL123).1 (eL123).2.1 h0) = true := by kernel_rfl
theorem runL124 : pureOk 1000 (eL124).2.2 (call Tryz.prog (cx []) 20000 (eL124).1 (eL124).2.1 h0) = true := by kernel_rfl
theorem runL125 : pureOk 1000 (eL125).2.2 (call Tryz.prog (cx [eL50]) 20000 (eL125).1 (eL125).2.1 h0) = true := by kernel_rfl
theorem runL126 : pureOk 1000 (eL126).2.2 (call Tryz.prog (cx []) 20000 (eL126).1 (eL126).2.1 h0) = true := by kernel_rfl
theorem runL127 : pureOk 1000 (eL127).2.2 (call Tryz.prog (cx []) 20000 (eL127).1 (eL127).2.1 h0) = true := by kernel_rfl
theorem runL128 : pureOk 1000 (eL128).2.2 (call Tryz.prog (cx [eL50]) 20000 (eL128).1 (eL128).2.1 h0) = true := by kernel_rfl
theorem runL129 : pureOk 1000 (eL129).2.2 (call Tryz.prog (cx []) 20000 (eL129).1 (eL129).2.1 h0) = true := by kernel_rfl
theorem runL130 : pureOk 1000 (eL130).2.2 (call Tryz.prog (cx []) 20000 (eL130).1 (eL130).2.1 h0) = true := by kernel_rfl
theorem runL131 : pureOk 1000 (eL131).2.2 (call Tryz.prog (cx []) 20000 (eL131).1 (eL131).2.1 h0) = true := by kernel_rfl
theorem runL132 : pureOk 1000 (eL132).2.2 (call Tryz.prog (cx []) 20000 (eL132).1 (eL132).2.1 h0) = true := by kernel_rfl
theorem runL133 : pureOk 1000 (eL133).2.2 (call Tryz.prog (cx [eL50]) 20000 (eL133).1 (eL133).2.1 h0) = true := by kernel_rfl
theorem runL134 : pureOk 1000 (eL134).2.2 (call Tryz.prog (cx []) 20000 (eL134).1 (eL134).2.1 h0) = true := by kernel_rfl
theorem runL135 : pureOk 1000 (eL135).2.2 (call Tryz.prog (cx []) 20000 (eL135).1 (eL135).2.1 h0) = true := by kernel_rfl
theorem runL136 : pureOk 1000 (eL136).2.2 (call Tryz.prog (cx []) 20000 (eL136).1 (eL136).2.1 h0) = true := by kernel_rfl
theorem runL137 : pureOk 1000 (eL137).2.2 (call Tryz.prog (cx []) 20000 (eL137).1 (eL137).2.1 h0) = true := by kernel_rfl
theorem runL138 : pureOk 1000 (eL138).2.2 (call Tryz.prog (cx [eL50]) 20000 (eL138).1 (eL138).2.1 h0) = true := by kernel_rfl
end Go.Proofs.YtifgafdcadffiaaGreatDoor
