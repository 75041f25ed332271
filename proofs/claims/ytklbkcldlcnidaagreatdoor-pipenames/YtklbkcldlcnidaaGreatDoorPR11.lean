/- PipeNames: calls, as the abstract machine reckons them, part 11. -/
import Derived.Test.YtklbkcldlcnidaaGreatDoorPV
namespace Go.Proofs.YtklbkcldlcnidaaGreatDoor
open Go.Ax
theorem runP274 : pureOk 1000 (eP274).2.2 (call Tryz.prog (cx [eP3, eP6, eP7, eP13, eP17, eP20, eP21, eP25, eP26, eP189, eP190, eP238, eP239, eP267, eP268, eP271, eP272, eP273]) 20000 (eP274).1 (eP274).2.1 h0) = true := by kernel_rfl
theorem runP275 : pureOk 1000 (eP275).2.2 (call Tryz.prog (cx [eP34]) 20000 (eP275).1 (eP275).2.1 h0) = true := by kernel_rfl
theorem runP276 : pureOk 1000 (eP276).2.2 (call Tryz.prog (cx [eP275]) 20000 (eP276).1 (eP276).2.1 h0) = true := by kernel_rfl
theorem runP277 : pureOk 1000 (eP277).2.2 (call Tryz.prog (cx [eP276]) 20000 (eP277).1 (eP277).2.1 h0) = true := by kernel_rfl
theorem runP278 : pureOk 1000 (eP278).2.2 (call Tryz.prog (cx [eP276]) 20000 (eP278).1 (eP278).2.1 h0) = true := by kernel_rfl
theorem runP279 : pureOk 1000 (eP279).2.2 (call Tryz.prog (cx [eP277, eP278]) 20000 (eP279).1 (eP279).2.1 h0) = true := by kernel_rfl
theorem runP280 : pureOk 1000 (eP280).2.2 (call Tryz.prog (cx [eP276]) 20000 (eP280).1 (eP280).2.1 h0) = true := by kernel_rfl
theorem runP281 : pureOk 1000 (eP281).2.2 (call Tryz.prog (cx []) 20000 (eP281).1 (eP281).2.1 h0) = true := by kernel_rfl
theorem runP282 : pureOk 1000 (eP282).2.2 (call Tryz.prog (cx []) 20000 (eP282).1 (eP282).2.1 h0) = true := by kernel_rfl
theorem runP283 : pureOk 1000 (eP283).2.2 (call Tryz.prog (cx []) 20000 (eP283).1 (eP283).2.1 h0) = true := by kernel_rfl
theorem runP284 : pureOk 1000 (eP284).2.2 (call Tryz.prog (cx [eP20, eP25, eP26, eP189, eP198, eP239, eP272, eP273, eP275, eP277, eP279, eP280, eP281, eP282, eP283]) 20000 (eP284).1 (eP284).2.1 h0) = true := by kernel_rfl
theorem runP285 : pureOk 1000 (eP285).2.2 (call Tryz.prog (cx [eP54]) 20000 (eP285).1 (eP285).2.1 h0) = true := by kernel_rfl
theorem runP286 : pureOk 1000 (eP286).2.2 (call Tryz.prog (cx [eP284]) 20000 (eP286).1 (eP286).2.1 h0) = true := by kernel_rfl
theorem runP287 : pureOk 1000 (eP287).2.2 (call Tryz.prog (cx [eP59, eP276, eP286]) 20000 (eP287).1 (eP287).2.1 h0) = true := by kernel_rfl
theorem runP288 : pureOkN 1000 (eP288).2.2 (callAll Tryz.prog (cx [eP59, eP64, eP65, eP66, eP143, eP146, eP147, eP148, eP149, eP150, eP151, eP152, eP276, eP286, eP287]) (nkP []) 20000 (eP288).1 (eP288).2.1) = true := by kernel_rfl
theorem runP289 : pureOk 1000 (eP289).2.2 (call Tryz.prog (cx [eP34, eP54, eP284, eP288]) 20000 (eP289).1 (eP289).2.1 h0) = true := by kernel_rfl
theorem runP290 : pureOk 1000 (eP290).2.2 (call Tryz.prog (cx [eP289]) 20000 (eP290).1 (eP290).2.1 h0) = true := by kernel_rfl
theorem runP291 : pureOk 1000 (eP291).2.2 (call Tryz.prog (cx [eP275]) 20000 (eP291).1 (eP291).2.1 h0) = true := by kernel_rfl
theorem runP292 : pureOk 1000 (eP292).2.2 (call Tryz.prog (cx [eP276]) 20000 (eP292).1 (eP292).2.1 h0) = true := by kernel_rfl
theorem runP293 : pureOk 1000 (eP293).2.2 (call Tryz.prog (cx [eP286, eP288, eP291, eP292]) 20000 (eP293).1 (eP293).2.1 h0) = true := by kernel_rfl
theorem runP294 : pureOk 1000 (eP294).2.2 (call Tryz.prog (cx [eP59, eP276, eP286]) 20000 (eP294).1 (eP294).2.1 h0) = true := by kernel_rfl
theorem runP295 : pureOk 1000 (eP295).2.2 (call Tryz.prog (cx [eP288, eP294]) 20000 (eP295).1 (eP295).2.1 h0) = true := by kernel_rfl
theorem runP296 : pureOk 1000 (eP296).2.2 (call Tryz.prog (cx [eP59, eP276, eP286]) 20000 (eP296).1 (eP296).2.1 h0) = true := by kernel_rfl
theorem runP297 : pureOk 1000 (eP297).2.2 (call Tryz.prog (cx [eP59, eP82, eP109, eP219, eP276, eP286, eP288, eP295, eP296]) 20000 (eP297).1 (eP297).2.1 h0) = true := by kernel_rfl
theorem runP298 : pureOk 1000 (eP298).2.2 (call Tryz.prog (cx [eP293, eP297]) 20000 (eP298).1 (eP298).2.1 h0) = true := by kernel_rfl
theorem runP299 : pureOk 1000 (eP299).2.2 (call Tryz.prog (cx [eP59, eP276, eP286]) 20000 (eP299).1 (eP299).2.1 h0) = true := by kernel_rfl
end Go.Proofs.YtklbkcldlcnidaaGreatDoor
