/- PromoteNames: calls, as the abstract machine reckons them, part 20. -/
import Derived.Test.YtodpcmfblpmheaaGreatDoorPV
namespace Go.Proofs.YtodpcmfblpmheaaGreatDoor
open Go.Ax
theorem runP250 : pureOkN 1000 (eP250).2.2 (callAll Tryz.prog (cx [eP59, eP64, eP65, eP66, eP71, eP72, eP205, eP220, eP226, eP227, eP228, eP230, eP231, eP232, eP233, eP234, eP235, eP236, eP237, eP238, eP239, eP240, eP241, eP242, eP243, eP244, eP245, eP246, eP247, eP248, eP249]) nkP 20000 (eP250).1 (eP250).2.1) = true := by kernel_rfl
theorem runP251 : pureOk 1000 (eP251).2.2 (call Tryz.prog (cx [eP204]) 20000 (eP251).1 (eP251).2.1 h0) = true := by kernel_rfl
theorem runP252 : pureOk 1000 (eP252).2.2 (call Tryz.prog (cx [eP205]) 20000 (eP252).1 (eP252).2.1 h0) = true := by kernel_rfl
theorem runP253 : pureOk 1000 (eP253).2.2 (call Tryz.prog (cx [eP204]) 20000 (eP253).1 (eP253).2.1 h0) = true := by kernel_rfl
theorem runP254 : pureOk 1000 (eP254).2.2 (call Tryz.prog (cx [eP205]) 20000 (eP254).1 (eP254).2.1 h0) = true := by kernel_rfl
theorem runP255 : pureOk 1000 (eP255).2.2 (call Tryz.prog (cx [eP205]) 20000 (eP255).1 (eP255).2.1 h0) = true := by kernel_rfl
theorem runP256 : pureOk 1000 (eP256).2.2 (call Tryz.prog (cx [eP205]) 20000 (eP256).1 (eP256).2.1 h0) = true := by kernel_rfl
theorem runP257 : pureOk 1000 (eP257).2.2 (call Tryz.prog (cx [eP64]) 20000 (eP257).1 (eP257).2.1 h0) = true := by kernel_rfl
theorem runP258 : pureOk 1000 (eP258).2.2 (call Tryz.prog (cx []) 20000 (eP258).1 (eP258).2.1 h0) = true := by kernel_rfl
theorem runP259 : pureOk 1000 (eP259).2.2 (call Tryz.prog (cx []) 20000 (eP259).1 (eP259).2.1 h0) = true := by kernel_rfl
theorem runP260 : pureOk 1000 (eP260).2.2 (call Tryz.prog (cx []) 20000 (eP260).1 (eP260).2.1 h0) = true := by kernel_rfl
theorem runP261 : pureOk 1000 (eP261).2.2 (call Tryz.prog (cx [eP204]) 20000 (eP261).1 (eP261).2.1 h0) = true := by kernel_rfl
theorem runP262 : pureOk 1000 (eP262).2.2 (call Tryz.prog (cx []) 20000 (eP262).1 (eP262).2.1 h0) = true := by kernel_rfl
theorem runP263 : pureOk 1000 (eP263).2.2 (call Tryz.prog (cx []) 20000 (eP263).1 (eP263).2.1 h0) = true := by kernel_rfl
theorem runP264 : pureOk 1000 (eP264).2.2 (call Tryz.prog (cx [eP204]) 20000 (eP264).1 (eP264).2.1 h0) = true := by kernel_rfl
theorem runP265 : pureOk 1000 (eP265).2.2 (call Tryz.prog (cx []) 20000 (eP265).1 (eP265).2.1 h0) = true := by kernel_rfl
theorem runP266 : pureOk 1000 (eP266).2.2 (call Tryz.prog (cx []) 20000 (eP266).1 (eP266).2.1 h0) = true := by kernel_rfl
theorem runP267 : pureOk 1000 (eP267).2.2 (call Tryz.prog (cx [eP205]) 20000 (eP267).1 (eP267).2.1 h0) = true := by kernel_rfl
theorem runP268 : pureOk 1000 (eP268).2.2 (call Tryz.prog (cx []) 20000 (eP268).1 (eP268).2.1 h0) = true := by kernel_rfl
theorem runP269 : pureOk 1000 (eP269).2.2 (call Tryz.prog (cx [eP64, eP66, eP105]) 20000 (eP269).1 (eP269).2.1 h0) = true := by kernel_rfl
end Go.Proofs.YtodpcmfblpmheaaGreatDoor
