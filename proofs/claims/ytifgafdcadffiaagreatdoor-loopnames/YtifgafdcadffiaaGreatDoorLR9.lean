/- LoopNames: calls, as the abstract machine reckons them, part 9. -/
import Derived.Test.YtifgafdcadffiaaGreatDoorLV
namespace Go.Proofs.YtifgafdcadffiaaGreatDoor
open Go.Ax
theorem runL160 : pureOk 1000 (eL160).2.2 (call Tryz.prog (cx [eL15, eL56, eL57, eL58, eL62, eL63, eL64, eL65, eL66, eL68, eL78, eL83, eL89, eL107, eL108, eL109, eL110, eL111, eL112, eL113, eL114, eL115, eL116, eL117, eL118, eL119, eL120, eL121, eL122, eL123, eL124, eL125, eL126, eL127, eL128, eL129, eL130, eL131, eL132, eL133, eL134, eL135, eL136, eL137, eL138, eL139, eL140, eL141, eL142, eL143, eL144, eL145, eL146, eL147, eL148, eL149, eL150, eL151, eL153, eL154, eL155, eL156, eL157, eL158, eL159]) 20000 (eL160).1 (eL160).2.1 h0) = true := by kernel_rfl
theorem runL161 : pureOk 1000 (eL161).2.2 (call Tryz.prog (cx [eL51, eL70, eL73]) 20000 (eL161).1 (eL161).2.1 h0) = true := by kernel_rfl
theorem runL162 : pureOk 1000 (eL162).2.2 (call Tryz.prog (cx [eL51, eL70, eL73]) 20000 (eL162).1 (eL162).2.1 h0) = true := by kernel_rfl
theorem runL163 : pureOk 1000 (eL163).2.2 (call Tryz.prog (cx [eL51, eL70, eL73]) 20000 (eL163).1 (eL163).2.1 h0) = true := by kernel_rfl
theorem runL164 : pureOk 1000 (eL164).2.2 (call Tryz.prog (cx []) 20000 (eL164).1 (eL164).2.1 h0) = true := by kernel_rfl
theorem runL165 : pureOk 1000 (eL165).2.2 (call Tryz.prog (cx []) 20000 (eL165).1 (eL165).2.1 h0) = true := by kernel_rfl
theorem runL166 : pureOk 1000 (eL166).2.2 (call Tryz.prog (cx [eL164, eL165]) 20000 (eL166).1 (eL166).2.1 h0) = true := by kernel_rfl
theorem runL167 : pureOk 1000 (eL167).2.2 (call Tryz.prog (cx [eL78]) 20000 (eL167).1 (eL167).2.1 h0) = true := by kernel_rfl
theorem runL168 : pureOk 1000 (eL168).2.2 (call Tryz.prog (cx [eL50]) 20000 (eL168).1 (eL168).2.1 h0) = true := by kernel_rfl
end Go.Proofs.YtifgafdcadffiaaGreatDoor
