/- SolveNames: calls, as the abstract machine reckons them, part 10. -/
import Derived.Test.YtnpknclpnogagaaGreatDoorWV
namespace Go.Proofs.YtnpknclpnogagaaGreatDoor
open Go.Ax
theorem runW281 : pureOk 1000 (eW281).2.2 (call Tryz.prog (cx []) 20000 (eW281).1 (eW281).2.1 h0) = true := by kernel_rfl
theorem runW282 : pureOk 1000 (eW282).2.2 (call Tryz.prog (cx [eW3, eW4, eW6, eW9, eW10, eW11, eW12, eW13, eW14, eW15, eW18, eW35, eW279, eW280, eW281]) 20000 (eW282).1 (eW282).2.1 h0) = true := by kernel_rfl
theorem runW283 : pureOk 1000 (eW283).2.2 (call Tryz.prog (cx []) 20000 (eW283).1 (eW283).2.1 h0) = true := by kernel_rfl
theorem runW284 : pureOk 1000 (eW284).2.2 (call Tryz.prog (cx [eW283]) 20000 (eW284).1 (eW284).2.1 h0) = true := by kernel_rfl
theorem runW285 : pureOk 1000 (eW285).2.2 (call Tryz.prog (cx [eW284]) 20000 (eW285).1 (eW285).2.1 h0) = true := by kernel_rfl
theorem runW286 : pureOk 1000 (eW286).2.2 (call Tryz.prog (cx [eW285]) 20000 (eW286).1 (eW286).2.1 h0) = true := by kernel_rfl
theorem runW287 : pureOk 1000 (eW287).2.2 (call Tryz.prog (cx [eW285]) 20000 (eW287).1 (eW287).2.1 h0) = true := by kernel_rfl
theorem runW288 : pureOk 1000 (eW288).2.2 (call Tryz.prog (cx [eW286, eW287]) 20000 (eW288).1 (eW288).2.1 h0) = true := by kernel_rfl
theorem runW289 : pureOk 1000 (eW289).2.2 (call Tryz.prog (cx [eW285]) 20000 (eW289).1 (eW289).2.1 h0) = true := by kernel_rfl
theorem runW290 : pureOk 1000 (eW290).2.2 (call Tryz.prog (cx []) 20000 (eW290).1 (eW290).2.1 h0) = true := by kernel_rfl
theorem runW291 : pureOk 1000 (eW291).2.2 (call Tryz.prog (cx []) 20000 (eW291).1 (eW291).2.1 h0) = true := by kernel_rfl
theorem runW292 : pureOk 1000 (eW292).2.2 (call Tryz.prog (cx []) 20000 (eW292).1 (eW292).2.1 h0) = true := by kernel_rfl
theorem runW293 : pureOk 1000 (eW293).2.2 (call Tryz.prog (cx []) 20000 (eW293).1 (eW293).2.1 h0) = true := by kernel_rfl
theorem runW294 : pureOk 1000 (eW294).2.2 (call Tryz.prog (cx [eW11, eW14, eW280, eW284, eW286, eW288, eW289, eW290, eW291, eW292, eW293]) 20000 (eW294).1 (eW294).2.1 h0) = true := by kernel_rfl
theorem runW295 : pureOk 1000 (eW295).2.2 (call Tryz.prog (cx [eW294]) 20000 (eW295).1 (eW295).2.1 h0) = true := by kernel_rfl
theorem runW296 : pureOk 1000 (eW296).2.2 (call Tryz.prog (cx [eW283]) 20000 (eW296).1 (eW296).2.1 h0) = true := by kernel_rfl
theorem runW297 : pureOk 1000 (eW297).2.2 (call Tryz.prog (cx []) 20000 (eW297).1 (eW297).2.1 h0) = true := by kernel_rfl
theorem runW298 : pureOk 1000 (eW298).2.2 (call Tryz.prog (cx [eW296, eW297]) 20000 (eW298).1 (eW298).2.1 h0) = true := by kernel_rfl
theorem runW299 : pureOk 1000 (eW299).2.2 (call Tryz.prog (cx [eW285, eW295, eW298]) 20000 (eW299).1 (eW299).2.1 h0) = true := by kernel_rfl
theorem runW300 : pureOk 1000 (eW300).2.2 (call Tryz.prog (cx []) 20000 (eW300).1 (eW300).2.1 h0) = true := by kernel_rfl
theorem runW301 : pureOk 1000 (eW301).2.2 (call Tryz.prog (cx [eW285, eW295, eW298]) 20000 (eW301).1 (eW301).2.1 h0) = true := by kernel_rfl
theorem runW302 : pureOk 1000 (eW302).2.2 (call Tryz.prog (cx []) 20000 (eW302).1 (eW302).2.1 h0) = true := by kernel_rfl
theorem runW303 : pureOk 1000 (eW303).2.2 (call Tryz.prog (cx [eW302]) 20000 (eW303).1 (eW303).2.1 h0) = true := by kernel_rfl
theorem runW304 : pureOk 1000 (eW304).2.2 (call Tryz.prog (cx [eW302]) 20000 (eW304).1 (eW304).2.1 h0) = true := by kernel_rfl
theorem runW305 : pureOk 1000 (eW305).2.2 (call Tryz.prog (cx []) 20000 (eW305).1 (eW305).2.1 h0) = true := by kernel_rfl
theorem runW306 : pureOk 1000 (eW306).2.2 (call Tryz.prog (cx []) 20000 (eW306).1 (eW306).2.1 h0) = true := by kernel_rfl
theorem runW307 : pureOk 1000 (eW307).2.2 (call Tryz.prog (cx [eW302]) 20000 (eW307).1 (eW307).2.1 h0) = true := by kernel_rfl
theorem runW308 : pureOk 1000 (eW308).2.2 (call Tryz.prog (cx []) 20000 (eW308).1 (eW308).2.1 h0) = true := by kernel_rfl
theorem runW309 : pureOk 1000 (eW309).2.2 (call Tryz.prog (cx []) 20000 (eW309).1 (eW309).2.1 h0) = true := by kernel_rfl
theorem runW310 : pureOk 1000 (eW310).2.2 (call Tryz.prog (cx [eW302]) 20000 (eW310).1 (eW310).2.1 h0) = true := by kernel_rfl
theorem runW311 : pureOk 1000 (eW311).2.2 (call Tryz.prog (cx [eW302]) 20000 (eW311).1 (eW311).2.1 h0) = true := by kernel_rfl
theorem runW312 : pureOkN 1000 (eW312).2.2 (callAll Tryz.prog (cx [eW86, eW93, eW94, eW285, eW295, eW298, eW300, eW301, eW303, eW304, eW305, eW306, eW307, eW308, eW310, eW311]) (nkW [pW66]) 20000 (eW312).1 (eW312).2.1) = true := by kernel_rfl
theorem runW313 : pureOk 1000 (eW313).2.2 (call Tryz.prog (cx []) 20000 (eW313).1 (eW313).2.1 h0) = true := by kernel_rfl
theorem runW314 : pureOk 1000 (eW314).2.2 (call Tryz.prog (cx [eW313]) 20000 (eW314).1 (eW314).2.1 h0) = true := by kernel_rfl
theorem runW315 : pureOk 1000 (eW315).2.2 (call Tryz.prog (cx [eW299, eW312, eW314]) 20000 (eW315).1 (eW315).2.1 h0) = true := by kernel_rfl
theorem runW316 : pureOk 1000 (eW316).2.2 (call Tryz.prog (cx [eW285, eW295, eW298]) 20000 (eW316).1 (eW316).2.1 h0) = true := by kernel_rfl
theorem runW317 : pureOk 1000 (eW317).2.2 (call Tryz.prog (cx []) 20000 (eW317).1 (eW317).2.1 h0) = true := by kernel_rfl
theorem runW318 : pureOk 1000 (eW318).2.2 (call Tryz.prog (cx [eW317]) 20000 (eW318).1 (eW318).2.1 h0) = true := by kernel_rfl
theorem runW319 : pureOk 1000 (eW319).2.2 (call Tryz.prog (cx [eW312, eW316, eW318]) 20000 (eW319).1 (eW319).2.1 h0) = true := by kernel_rfl
theorem runW320 : pureOk 1000 (eW320).2.2 (call Tryz.prog (cx [eW285, eW295, eW298]) 20000 (eW320).1 (eW320).2.1 h0) = true := by kernel_rfl
theorem runW321 : pureOk 1000 (eW321).2.2 (call Tryz.prog (cx [eW277, eW312, eW320]) 20000 (eW321).1 (eW321).2.1 h0) = true := by kernel_rfl
theorem runW322 : pureOk 1000 (eW322).2.2 (call Tryz.prog (cx []) 20000 (eW322).1 (eW322).2.1 h0) = true := by kernel_rfl
theorem runW323 : pureOk 1000 (eW323).2.2 (call Tryz.prog (cx [eW51, eW69, eW77, eW80]) 20000 (eW323).1 (eW323).2.1 h0) = true := by kernel_rfl
theorem runW324 : pureOk 1000 (eW324).2.2 (call Tryz.prog (cx [eW265, eW267, eW323]) 20000 (eW324).1 (eW324).2.1 h0) = true := by kernel_rfl
theorem runW325 : pureOk 1000 (eW325).2.2 (call Tryz.prog (cx [eW51, eW69, eW77, eW80]) 20000 (eW325).1 (eW325).2.1 h0) = true := by kernel_rfl
theorem runW326 : pureOk 1000 (eW326).2.2 (call Tryz.prog (cx [eW265, eW267, eW325]) 20000 (eW326).1 (eW326).2.1 h0) = true := by kernel_rfl
theorem runW327 : pureOk 1000 (eW327).2.2 (call Tryz.prog (cx [eW51, eW69, eW77, eW80]) 20000 (eW327).1 (eW327).2.1 h0) = true := by kernel_rfl
theorem runW328 : pureOk 1000 (eW328).2.2 (call Tryz.prog (cx [eW265, eW314, eW327]) 20000 (eW328).1 (eW328).2.1 h0) = true := by kernel_rfl
theorem runW329 : pureOk 1000 (eW329).2.2 (call Tryz.prog (cx [eW51, eW69, eW77, eW80]) 20000 (eW329).1 (eW329).2.1 h0) = true := by kernel_rfl
theorem runW330 : pureOk 1000 (eW330).2.2 (call Tryz.prog (cx [eW265, eW267, eW329]) 20000 (eW330).1 (eW330).2.1 h0) = true := by kernel_rfl
theorem runW331 : pureOk 1000 (eW331).2.2 (call Tryz.prog (cx [eW51, eW69, eW77, eW80]) 20000 (eW331).1 (eW331).2.1 h0) = true := by kernel_rfl
theorem runW332 : pureOk 1000 (eW332).2.2 (call Tryz.prog (cx []) 20000 (eW332).1 (eW332).2.1 h0) = true := by kernel_rfl
theorem runW333 : pureOk 1000 (eW333).2.2 (call Tryz.prog (cx [eW332]) 20000 (eW333).1 (eW333).2.1 h0) = true := by kernel_rfl
theorem runW334 : pureOk 1000 (eW334).2.2 (call Tryz.prog (cx [eW265, eW331, eW333]) 20000 (eW334).1 (eW334).2.1 h0) = true := by kernel_rfl
theorem prunW0 : toldOk (pW0).2.2.2 (callAllH Tryz.prog (cx [eW102, eW103, eW104, eW105, eW106, eW107]) (nkW []) 20000 (pW0).1 (pW0).2.1 (pW0).2.2.1) = true := by kernel_rfl
theorem prunW1 : toldOk (pW1).2.2.2 (callAllH Tryz.prog (cx [eW102, eW103, eW104, eW105, eW106, eW107]) (nkW []) 20000 (pW1).1 (pW1).2.1 (pW1).2.2.1) = true := by kernel_rfl
end Go.Proofs.YtnpknclpnogagaaGreatDoor
