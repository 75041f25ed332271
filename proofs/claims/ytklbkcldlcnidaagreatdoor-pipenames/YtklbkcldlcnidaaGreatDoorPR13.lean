/- PipeNames: calls, as the abstract machine reckons them, part 13. -/
import Derived.Test.YtklbkcldlcnidaaGreatDoorPV
namespace Go.Proofs.YtklbkcldlcnidaaGreatDoor
open Go.Ax
theorem runP322 : pureOk 1000 (eP322).2.2 (call Tryz.prog (cx [eP320, eP321]) 20000 (eP322).1 (eP322).2.1 h0) = true := by kernel_rfl
theorem runP323 : pureOk 1000 (eP323).2.2 (call Tryz.prog (cx [eP319]) 20000 (eP323).1 (eP323).2.1 h0) = true := by kernel_rfl
theorem runP324 : pureOk 1000 (eP324).2.2 (call Tryz.prog (cx [eP52, eP239, eP281, eP318, eP320, eP322, eP323]) 20000 (eP324).1 (eP324).2.1 h0) = true := by kernel_rfl
theorem runP325 : pureOk 1000 (eP325).2.2 (call Tryz.prog (cx [eP54]) 20000 (eP325).1 (eP325).2.1 h0) = true := by kernel_rfl
theorem runP326 : pureOk 1000 (eP326).2.2 (call Tryz.prog (cx [eP324]) 20000 (eP326).1 (eP326).2.1 h0) = true := by kernel_rfl
theorem runP327 : pureOk 1000 (eP327).2.2 (call Tryz.prog (cx [eP319, eP326]) 20000 (eP327).1 (eP327).2.1 h0) = true := by kernel_rfl
theorem runP328 : pureOkN 1000 (eP328).2.2 (callAll Tryz.prog (cx [eP251, eP254, eP255, eP319, eP326, eP327]) (nkP []) 20000 (eP328).1 (eP328).2.1) = true := by kernel_rfl
theorem runP329 : pureOk 1000 (eP329).2.2 (call Tryz.prog (cx [eP328]) 20000 (eP329).1 (eP329).2.1 h0) = true := by kernel_rfl
theorem runP330 : pureOk 1000 (eP330).2.2 (call Tryz.prog (cx [eP324, eP325, eP329]) 20000 (eP330).1 (eP330).2.1 h0) = true := by kernel_rfl
theorem runP331 : pureOk 1000 (eP331).2.2 (call Tryz.prog (cx [eP330]) 20000 (eP331).1 (eP331).2.1 h0) = true := by kernel_rfl
theorem runP332 : pureOk 1000 (eP332).2.2 (call Tryz.prog (cx [eP52, eP54, eP238, eP281, eP324]) 20000 (eP332).1 (eP332).2.1 h0) = true := by kernel_rfl
theorem runP333 : pureOk 1000 (eP333).2.2 (call Tryz.prog (cx [eP332]) 20000 (eP333).1 (eP333).2.1 h0) = true := by kernel_rfl
theorem runP334 : pureOk 1000 (eP334).2.2 (call Tryz.prog (cx [eP284, eP285, eP290, eP301, eP308, eP317, eP324, eP331, eP333]) 20000 (eP334).1 (eP334).2.1 h0) = true := by kernel_rfl
theorem runP335 : pureOk 1000 (eP335).2.2 (call Tryz.prog (cx [eP334]) 20000 (eP335).1 (eP335).2.1 h0) = true := by kernel_rfl
theorem runP336 : pureOk 1000 (eP336).2.2 (call Tryz.prog (cx []) 20000 (eP336).1 (eP336).2.1 h0) = true := by kernel_rfl
theorem runP337 : pureOk 1000 (eP337).2.2 (call Tryz.prog (cx [eP173, eP174, eP239, eP281, eP318, eP336]) 20000 (eP337).1 (eP337).2.1 h0) = true := by kernel_rfl
theorem runP338 : pureOk 1000 (eP338).2.2 (call Tryz.prog (cx [eP274, eP335, eP337]) 20000 (eP338).1 (eP338).2.1 h0) = true := by kernel_rfl
end Go.Proofs.YtklbkcldlcnidaaGreatDoor
