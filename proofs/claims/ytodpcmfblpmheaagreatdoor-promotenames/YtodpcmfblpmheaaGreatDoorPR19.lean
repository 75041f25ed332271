/- PromoteNames: calls, as the abstract machine reckons them, part 19. -/
import Derived.Test.YtodpcmfblpmheaaGreatDoorPV
namespace Go.Proofs.YtodpcmfblpmheaaGreatDoor
open Go.Ax
theorem runP227 : pureOk 1000 (eP227).2.2 (call Tryz.prog (cx []) 20000 (eP227).1 (eP227).2.1 h0) = true := by kernel_rfl
theorem runP228 : pureOk 1000 (eP228).2.2 (call Tryz.prog (cx [eP59, eP205, eP220, eP226]) 20000 (eP228).1 (eP228).2.1 h0) = true := by kernel_rfl
theorem runP229 : pureOk 1000 (eP229).2.2 (call Tryz.prog (cx []) 20000 (eP229).1 (eP229).2.1 h0) = true := by kernel_rfl
theorem runP230 : pureOk 1000 (eP230).2.2 (call Tryz.prog (cx [eP229]) 20000 (eP230).1 (eP230).2.1 h0) = true := by kernel_rfl
theorem runP231 : pureOk 1000 (eP231).2.2 (call Tryz.prog (cx [eP229]) 20000 (eP231).1 (eP231).2.1 h0) = true := by kernel_rfl
theorem runP232 : pureOk 1000 (eP232).2.2 (call Tryz.prog (cx [eP229]) 20000 (eP232).1 (eP232).2.1 h0) = true := by kernel_rfl
theorem runP233 : pureOk 1000 (eP233).2.2 (call Tryz.prog (cx []) 20000 (eP233).1 (eP233).2.1 h0) = true := by kernel_rfl
theorem runP234 : pureOk 1000 (eP234).2.2 (call Tryz.prog (cx []) 20000 (eP234).1 (eP234).2.1 h0) = true := by kernel_rfl
theorem runP235 : pureOk 1000 (eP235).2.2 (call Tryz.prog (cx []) 20000 (eP235).1 (eP235).2.1 h0) = true := by kernel_rfl
theorem runP236 : pureOk 1000 (eP236).2.2 (call Tryz.prog (cx []) 20000 (eP236).1 (eP236).2.1 h0) = true := by kernel_rfl
theorem runP237 : pureOk 1000 (eP237).2.2 (call Tryz.prog (cx []) 20000 (eP237).1 (eP237).2.1 h0) = true := by kernel_rfl
theorem runP238 : pureOk 1000 (eP238).2.2 (call Tryz.prog (cx []) 20000 (eP238).1 (eP238).2.1 h0) = true := by kernel_rfl
theorem runP239 : pureOk 1000 (eP239).2.2 (call Tryz.prog (cx [eP229]) 20000 (eP239).1 (eP239).2.1 h0) = true := by kernel_rfl
theorem runP240 : pureOk 1000 (eP240).2.2 (call Tryz.prog (cx [eP229]) 20000 (eP240).1 (eP240).2.1 h0) = true := by kernel_rfl
theorem runP241 : pureOk 1000 (eP241).2.2 (call Tryz.prog (cx [eP229]) 20000 (eP241).1 (eP241).2.1 h0) = true := by kernel_rfl
theorem runP242 : pureOk 1000 (eP242).2.2 (call Tryz.prog (cx [eP229]) 20000 (eP242).1 (eP242).2.1 h0) = true := by kernel_rfl
theorem runP243 : pureOk 1000 (eP243).2.2 (call Tryz.prog (cx [eP229]) 20000 (eP243).1 (eP243).2.1 h0) = true := by kernel_rfl
theorem runP244 : pureOk 1000 (eP244).2.2 (call Tryz.prog (cx [eP229]) 20000 (eP244).1 (eP244).2.1 h0) = true := by kernel_rfl
theorem runP245 : pureOk 1000 (eP245).2.2 (call Tryz.prog (cx [eP229]) 20000 (eP245).1 (eP245).2.1 h0) = true := by kernel_rfl
theorem runP246 : pureOk 1000 (eP246).2.2 (call Tryz.prog (cx [eP229]) 20000 (eP246).1 (eP246).2.1 h0) = true := by kernel_rfl
theorem runP247 : pureOk 1000 (eP247).2.2 (call Tryz.prog (cx [eP229]) 20000 (eP247).1 (eP247).2.1 h0) = true := by kernel_rfl
theorem runP248 : pureOk 1000 (eP248).2.2 (call Tryz.prog (cx [eP229]) 20000 (eP248).1 (eP248).2.1 h0) = true := by kernel_rfl
theorem runP249 : pureOk 1000 (eP249).2.2 (call Tryz.prog (cx [eP229]) 20000 (eP249).1 (eP249).2.1 h0) = true := by kernel_rfl
end Go.Proofs.YtodpcmfblpmheaaGreatDoor
