/- PipeNames: calls, as the abstract machine reckons them, part 12. -/
import Derived.Test.YtklbkcldlcnidaaGreatDoorPV
namespace Go.Proofs.YtklbkcldlcnidaaGreatDoor
open Go.Ax
theorem runP300 : pureOk 1000 (eP300).2.2 (call Tryz.prog (cx [eP19, eP21, eP26, eP34, eP42, eP54, eP59, eP82, eP238, eP281, eP282, eP283, eP284, eP286, eP288, eP298, eP299]) 20000 (eP300).1 (eP300).2.1 h0) = true := by kernel_rfl
theorem runP301 : pureOk 1000 (eP301).2.2 (call Tryz.prog (cx [eP300]) 20000 (eP301).1 (eP301).2.1 h0) = true := by kernel_rfl
theorem runP302 : pureOk 1000 (eP302).2.2 (call Tryz.prog (cx [eP34]) 20000 (eP302).1 (eP302).2.1 h0) = true := by kernel_rfl
theorem runP303 : pureOk 1000 (eP303).2.2 (call Tryz.prog (cx [eP302]) 20000 (eP303).1 (eP303).2.1 h0) = true := by kernel_rfl
theorem runP304 : pureOk 1000 (eP304).2.2 (call Tryz.prog (cx [eP303]) 20000 (eP304).1 (eP304).2.1 h0) = true := by kernel_rfl
theorem runP305 : pureOk 1000 (eP305).2.2 (call Tryz.prog (cx [eP303]) 20000 (eP305).1 (eP305).2.1 h0) = true := by kernel_rfl
theorem runP306 : pureOk 1000 (eP306).2.2 (call Tryz.prog (cx [eP304, eP305]) 20000 (eP306).1 (eP306).2.1 h0) = true := by kernel_rfl
theorem runP307 : pureOk 1000 (eP307).2.2 (call Tryz.prog (cx [eP303]) 20000 (eP307).1 (eP307).2.1 h0) = true := by kernel_rfl
theorem runP308 : pureOk 1000 (eP308).2.2 (call Tryz.prog (cx [eP18, eP20, eP25, eP26, eP42, eP239, eP281, eP282, eP283, eP302, eP304, eP306, eP307]) 20000 (eP308).1 (eP308).2.1 h0) = true := by kernel_rfl
theorem runP309 : pureOk 1000 (eP309).2.2 (call Tryz.prog (cx [eP54]) 20000 (eP309).1 (eP309).2.1 h0) = true := by kernel_rfl
theorem runP310 : pureOk 1000 (eP310).2.2 (call Tryz.prog (cx [eP308]) 20000 (eP310).1 (eP310).2.1 h0) = true := by kernel_rfl
theorem runP311 : pureOk 1000 (eP311).2.2 (call Tryz.prog (cx [eP302]) 20000 (eP311).1 (eP311).2.1 h0) = true := by kernel_rfl
theorem runP312 : pureOk 1000 (eP312).2.2 (call Tryz.prog (cx [eP304, eP305, eP311]) 20000 (eP312).1 (eP312).2.1 h0) = true := by kernel_rfl
theorem runP313 : pureOk 1000 (eP313).2.2 (call Tryz.prog (cx [eP19, eP21, eP26, eP54, eP238, eP283, eP303]) 20000 (eP313).1 (eP313).2.1 h0) = true := by kernel_rfl
theorem runP314 : pureOk 1000 (eP314).2.2 (call Tryz.prog (cx [eP34]) 20000 (eP314).1 (eP314).2.1 h0) = true := by kernel_rfl
theorem runP315 : pureOk 1000 (eP315).2.2 (call Tryz.prog (cx [eP314]) 20000 (eP315).1 (eP315).2.1 h0) = true := by kernel_rfl
theorem runP316 : pureOk 1000 (eP316).2.2 (call Tryz.prog (cx [eP26, eP34, eP42, eP52, eP54, eP126, eP238, eP239, eP281, eP282, eP283, eP309, eP310, eP312, eP313, eP315]) 20000 (eP316).1 (eP316).2.1 h0) = true := by kernel_rfl
theorem runP317 : pureOk 1000 (eP317).2.2 (call Tryz.prog (cx [eP316]) 20000 (eP317).1 (eP317).2.1 h0) = true := by kernel_rfl
theorem runP318 : pureOk 1000 (eP318).2.2 (call Tryz.prog (cx [eP34]) 20000 (eP318).1 (eP318).2.1 h0) = true := by kernel_rfl
theorem runP319 : pureOk 1000 (eP319).2.2 (call Tryz.prog (cx [eP318]) 20000 (eP319).1 (eP319).2.1 h0) = true := by kernel_rfl
theorem runP320 : pureOk 1000 (eP320).2.2 (call Tryz.prog (cx [eP319]) 20000 (eP320).1 (eP320).2.1 h0) = true := by kernel_rfl
theorem runP321 : pureOk 1000 (eP321).2.2 (call Tryz.prog (cx [eP319]) 20000 (eP321).1 (eP321).2.1 h0) = true := by kernel_rfl
end Go.Proofs.YtklbkcldlcnidaaGreatDoor
