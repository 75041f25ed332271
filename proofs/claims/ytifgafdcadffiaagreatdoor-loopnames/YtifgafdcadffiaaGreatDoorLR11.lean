/- LoopNames: calls, as the abstract machine reckons them, part 11. -/
import Derived.Test.YtifgafdcadffiaaGreatDoorLV
namespace Go.Proofs.YtifgafdcadffiaaGreatDoor
open Go.Ax
theorem runL180 : pureOk 1000 (eL180).2.2 (call Tryz.prog (cx [eL179]) 20000 (eL180).1 (eL180).2.1 h0) = true := by kernel_rfl
theorem runL181 : pureOk 1000 (eL181).2.2 (call Tryz.prog (cx [eL70, eL102, eL103, eL104]) 20000 (eL181).1 (eL181).2.1 h0) = true := by kernel_rfl
theorem runL182 : pureOk 1000 (eL182).2.2 (call Tryz.prog (cx [eL78]) 20000 (eL182).1 (eL182).2.1 h0) = true := by kernel_rfl
theorem runL183 : pureOk 1000 (eL183).2.2 (call Tryz.prog (cx [eL15, eL56, eL57, eL58, eL62, eL63, eL64, eL65, eL66, eL68, eL78, eL83, eL89, eL107, eL108, eL109, eL110, eL111, eL112, eL113, eL114, eL115, eL116, eL117, eL118, eL119, eL120, eL121, eL122, eL123, eL124, eL125, eL126, eL127, eL128, eL129, eL130, eL131, eL132, eL133, eL134, eL135, eL136, eL137, eL138, eL139, eL140, eL141, eL142, eL143, eL144, eL145, eL146, eL147, eL148, eL149, eL150, eL151, eL153, eL154, eL155, eL156, eL157, eL158, eL159, eL182]) 20000 (eL183).1 (eL183).2.1 h0) = true := by kernel_rfl
theorem runL184 : pureOk 1000 (eL184).2.2 (call Tryz.prog (cx [eL51, eL70, eL73]) 20000 (eL184).1 (eL184).2.1 h0) = true := by kernel_rfl
theorem runL185 : pureOk 1000 (eL185).2.2 (call Tryz.prog (cx [eL51, eL70, eL73]) 20000 (eL185).1 (eL185).2.1 h0) = true := by kernel_rfl
theorem runL186 : pureOk 1000 (eL186).2.2 (call Tryz.prog (cx [eL70, eL102, eL103, eL161, eL183, eL184, eL185]) 20000 (eL186).1 (eL186).2.1 h0) = true := by kernel_rfl
theorem runL187 : pureOk 1000 (eL187).2.2 (call Tryz.prog (cx [eL70, eL102, eL105, eL106]) 20000 (eL187).1 (eL187).2.1 h0) = true := by kernel_rfl
theorem runL188 : pureOk 1000 (eL188).2.2 (call Tryz.prog (cx [eL70, eL102, eL105, eL160, eL161, eL162, eL163, eL166, eL167]) 20000 (eL188).1 (eL188).2.1 h0) = true := by kernel_rfl
theorem runL189 : pureOk 1000 (eL189).2.2 (call Tryz.prog (cx [eL70, eL102, eL106, eL168]) 20000 (eL189).1 (eL189).2.1 h0) = true := by kernel_rfl
theorem runL190 : pureOk 1000 (eL190).2.2 (call Tryz.prog (cx [eL70, eL102, eL161, eL168, eL169, eL170, eL171, eL172]) 20000 (eL190).1 (eL190).2.1 h0) = true := by kernel_rfl
end Go.Proofs.YtifgafdcadffiaaGreatDoor
