/- LoopNames: calls, as the abstract machine reckons them, part 6. -/
import Derived.Test.YtifgafdcadffiaaGreatDoorLV
namespace Go.Proofs.YtifgafdcadffiaaGreatDoor
open Go.Ax
theorem runL102 : pureOkN 1000 (eL102).2.2 (callAll Tryz.prog (cx [eL51, eL70, eL73, eL74, eL75, eL77, eL78, eL79, eL80, eL81, eL82, eL83, eL84, eL85, eL86, eL87, eL88, eL89, eL90, eL91, eL92, eL93, eL94, eL95, eL96, eL97, eL98, eL99, eL100, eL101]) nkL 20000 (eL102).1 (eL102).2.1) = true := by kernel_rfl
end Go.Proofs.YtifgafdcadffiaaGreatDoor
