/- PipeNames: calls, as the abstract machine reckons them, part 9. -/
import Derived.Test.YtklbkcldlcnidaaGreatDoorPV
namespace Go.Proofs.YtklbkcldlcnidaaGreatDoor
open Go.Ax
theorem runP222 : pureOk 1000 (eP222).2.2 (call Tryz.prog (cx [eP59, eP193, eP202]) 20000 (eP222).1 (eP222).2.1 h0) = true := by kernel_rfl
theorem runP223 : pureOk 1000 (eP223).2.2 (call Tryz.prog (cx [eP19, eP26, eP34, eP42, eP54, eP59, eP126, eP199, eP202, eP210, eP221, eP222]) 20000 (eP223).1 (eP223).2.1 h0) = true := by kernel_rfl
theorem runP224 : pureOk 1000 (eP224).2.2 (call Tryz.prog (cx [eP223]) 20000 (eP224).1 (eP224).2.1 h0) = true := by kernel_rfl
theorem runP225 : pureOk 1000 (eP225).2.2 (call Tryz.prog (cx [eP34]) 20000 (eP225).1 (eP225).2.1 h0) = true := by kernel_rfl
theorem runP226 : pureOk 1000 (eP226).2.2 (call Tryz.prog (cx [eP225]) 20000 (eP226).1 (eP226).2.1 h0) = true := by kernel_rfl
theorem runP227 : pureOk 1000 (eP227).2.2 (call Tryz.prog (cx [eP226]) 20000 (eP227).1 (eP227).2.1 h0) = true := by kernel_rfl
theorem runP228 : pureOk 1000 (eP228).2.2 (call Tryz.prog (cx [eP226]) 20000 (eP228).1 (eP228).2.1 h0) = true := by kernel_rfl
theorem runP229 : pureOk 1000 (eP229).2.2 (call Tryz.prog (cx [eP227, eP228]) 20000 (eP229).1 (eP229).2.1 h0) = true := by kernel_rfl
theorem runP230 : pureOk 1000 (eP230).2.2 (call Tryz.prog (cx [eP226]) 20000 (eP230).1 (eP230).2.1 h0) = true := by kernel_rfl
theorem runP231 : pureOk 1000 (eP231).2.2 (call Tryz.prog (cx [eP18, eP25, eP26, eP42, eP126, eP225, eP227, eP229, eP230]) 20000 (eP231).1 (eP231).2.1 h0) = true := by kernel_rfl
theorem runP232 : pureOk 1000 (eP232).2.2 (call Tryz.prog (cx [eP54]) 20000 (eP232).1 (eP232).2.1 h0) = true := by kernel_rfl
theorem runP233 : pureOk 1000 (eP233).2.2 (call Tryz.prog (cx [eP231]) 20000 (eP233).1 (eP233).2.1 h0) = true := by kernel_rfl
theorem runP234 : pureOk 1000 (eP234).2.2 (call Tryz.prog (cx [eP225]) 20000 (eP234).1 (eP234).2.1 h0) = true := by kernel_rfl
theorem runP235 : pureOk 1000 (eP235).2.2 (call Tryz.prog (cx [eP34, eP54, eP234]) 20000 (eP235).1 (eP235).2.1 h0) = true := by kernel_rfl
theorem runP236 : pureOk 1000 (eP236).2.2 (call Tryz.prog (cx [eP34]) 20000 (eP236).1 (eP236).2.1 h0) = true := by kernel_rfl
theorem runP237 : pureOk 1000 (eP237).2.2 (call Tryz.prog (cx [eP236]) 20000 (eP237).1 (eP237).2.1 h0) = true := by kernel_rfl
theorem runP238 : pureOk 1000 (eP238).2.2 (call Tryz.prog (cx []) 20000 (eP238).1 (eP238).2.1 h0) = true := by kernel_rfl
theorem runP239 : pureOk 1000 (eP239).2.2 (call Tryz.prog (cx []) 20000 (eP239).1 (eP239).2.1 h0) = true := by kernel_rfl
theorem runP240 : pureOk 1000 (eP240).2.2 (call Tryz.prog (cx [eP26, eP34, eP42, eP52, eP54, eP126, eP232, eP233, eP235, eP237, eP238, eP239]) 20000 (eP240).1 (eP240).2.1 h0) = true := by kernel_rfl
theorem runP241 : pureOk 1000 (eP241).2.2 (call Tryz.prog (cx [eP240]) 20000 (eP241).1 (eP241).2.1 h0) = true := by kernel_rfl
theorem runP242 : pureOk 1000 (eP242).2.2 (call Tryz.prog (cx [eP34]) 20000 (eP242).1 (eP242).2.1 h0) = true := by kernel_rfl
theorem runP243 : pureOk 1000 (eP243).2.2 (call Tryz.prog (cx [eP242]) 20000 (eP243).1 (eP243).2.1 h0) = true := by kernel_rfl
theorem runP244 : pureOk 1000 (eP244).2.2 (call Tryz.prog (cx [eP243]) 20000 (eP244).1 (eP244).2.1 h0) = true := by kernel_rfl
theorem runP245 : pureOk 1000 (eP245).2.2 (call Tryz.prog (cx [eP243]) 20000 (eP245).1 (eP245).2.1 h0) = true := by kernel_rfl
theorem runP246 : pureOk 1000 (eP246).2.2 (call Tryz.prog (cx [eP244, eP245]) 20000 (eP246).1 (eP246).2.1 h0) = true := by kernel_rfl
theorem runP247 : pureOk 1000 (eP247).2.2 (call Tryz.prog (cx [eP243]) 20000 (eP247).1 (eP247).2.1 h0) = true := by kernel_rfl
theorem runP248 : pureOk 1000 (eP248).2.2 (call Tryz.prog (cx [eP52, eP238, eP239, eP242, eP244, eP246, eP247]) 20000 (eP248).1 (eP248).2.1 h0) = true := by kernel_rfl
theorem runP249 : pureOk 1000 (eP249).2.2 (call Tryz.prog (cx [eP54]) 20000 (eP249).1 (eP249).2.1 h0) = true := by kernel_rfl
theorem runP250 : pureOk 1000 (eP250).2.2 (call Tryz.prog (cx [eP248]) 20000 (eP250).1 (eP250).2.1 h0) = true := by kernel_rfl
theorem runP251 : pureOk 1000 (eP251).2.2 (call Tryz.prog (cx []) 20000 (eP251).1 (eP251).2.1 h0) = true := by kernel_rfl
theorem runP252 : pureOk 1000 (eP252).2.2 (call Tryz.prog (cx [eP243, eP250]) 20000 (eP252).1 (eP252).2.1 h0) = true := by kernel_rfl
theorem runP253 : pureOk 1000 (eP253).2.2 (call Tryz.prog (cx []) 20000 (eP253).1 (eP253).2.1 h0) = true := by kernel_rfl
theorem runP254 : pureOk 1000 (eP254).2.2 (call Tryz.prog (cx [eP253]) 20000 (eP254).1 (eP254).2.1 h0) = true := by kernel_rfl
theorem runP255 : pureOk 1000 (eP255).2.2 (call Tryz.prog (cx [eP253]) 20000 (eP255).1 (eP255).2.1 h0) = true := by kernel_rfl
theorem runP256 : pureOkN 1000 (eP256).2.2 (callAll Tryz.prog (cx [eP243, eP250, eP251, eP252, eP254, eP255]) (nkP []) 20000 (eP256).1 (eP256).2.1) = true := by kernel_rfl
theorem runP257 : pureOk 1000 (eP257).2.2 (call Tryz.prog (cx [eP256]) 20000 (eP257).1 (eP257).2.1 h0) = true := by kernel_rfl
theorem runP258 : pureOk 1000 (eP258).2.2 (call Tryz.prog (cx [eP248, eP249, eP257]) 20000 (eP258).1 (eP258).2.1 h0) = true := by kernel_rfl
end Go.Proofs.YtklbkcldlcnidaaGreatDoor
