/- LoopNames: calls, as the abstract machine reckons them, part 10. -/
import Derived.Test.YtifgafdcadffiaaGreatDoorLV
namespace Go.Proofs.YtifgafdcadffiaaGreatDoor
open Go.Ax
theorem runL169 : pureOk 1000 (eL169).2.2 (call Tryz.prog (cx [eL15, eL56, eL57, eL58, eL62, eL63, eL64, eL65, eL66, eL68, eL78, eL83, eL89, eL107, eL108, eL109, eL110, eL111, eL112, eL113, eL114, eL115, eL116, eL117, eL118, eL119, eL120, eL121, eL122, eL123, eL124, eL125, eL126, eL127, eL128, eL129, eL130, eL131, eL132, eL133, eL134, eL135, eL136, eL137, eL138, eL139, eL140, eL141, eL142, eL143, eL144, eL145, eL146, eL147, eL148, eL149, eL150, eL151, eL153, eL154, eL155, eL156, eL157, eL158, eL159]) 20000 (eL169).1 (eL169).2.1 h0) = true := by kernel_rfl
theorem runL170 : pureOk 1000 (eL170).2.2 (call Tryz.prog (cx [eL51, eL70, eL73]) 20000 (eL170).1 (eL170).2.1 h0) = true := by kernel_rfl
theorem runL171 : pureOk 1000 (eL171).2.2 (call Tryz.prog (cx [eL51, eL70, eL73]) 20000 (eL171).1 (eL171).2.1 h0) = true := by kernel_rfl
theorem runL172 : pureOk 1000 (eL172).2.2 (call Tryz.prog (cx [eL164, eL165]) 20000 (eL172).1 (eL172).2.1 h0) = true := by kernel_rfl
theorem runL173 : pureOk 1000 (eL173).2.2 (call Tryz.prog (cx [eL70, eL102, eL103, eL104, eL105, eL106, eL160, eL161, eL162, eL163, eL166, eL167, eL168, eL169, eL170, eL171, eL172]) 20000 (eL173).1 (eL173).2.1 h0) = true := by kernel_rfl
theorem runL174 : pureOk 1000 (eL174).2.2 (call Tryz.prog (cx [eL70, eL102]) 20000 (eL174).1 (eL174).2.1 h0) = true := by kernel_rfl
theorem runL175 : pureOk 1000 (eL175).2.2 (call Tryz.prog (cx [eL70, eL102]) 20000 (eL175).1 (eL175).2.1 h0) = true := by kernel_rfl
theorem runL176 : pureOk 1000 (eL176).2.2 (call Tryz.prog (cx []) 20000 (eL176).1 (eL176).2.1 h0) = true := by kernel_rfl
theorem runL177 : pureOk 1000 (eL177).2.2 (call Tryz.prog (cx [eL176]) 20000 (eL177).1 (eL177).2.1 h0) = true := by kernel_rfl
theorem runL178 : pureOk 1000 (eL178).2.2 (call Tryz.prog (cx [eL177]) 20000 (eL178).1 (eL178).2.1 h0) = true := by kernel_rfl
theorem runL179 : pureOk 1000 (eL179).2.2 (call Tryz.prog (cx [eL178]) 20000 (eL179).1 (eL179).2.1 h0) = true := by kernel_rfl
end Go.Proofs.YtifgafdcadffiaaGreatDoor
