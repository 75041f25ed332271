/- PipeNames: calls, as the abstract machine reckons them, part 8. -/
import Derived.Test.YtklbkcldlcnidaaGreatDoorPV
namespace Go.Proofs.YtklbkcldlcnidaaGreatDoor
open Go.Ax
theorem runP188 : pureOk 1000 (eP188).2.2 (call Tryz.prog (cx []) 20000 (eP188).1 (eP188).2.1 h0) = true := by kernel_rfl
theorem runP189 : pureOk 1000 (eP189).2.2 (call Tryz.prog (cx []) 20000 (eP189).1 (eP189).2.1 h0) = true := by kernel_rfl
theorem runP190 : pureOk 1000 (eP190).2.2 (call Tryz.prog (cx []) 20000 (eP190).1 (eP190).2.1 h0) = true := by kernel_rfl
theorem runP191 : pureOk 1000 (eP191).2.2 (call Tryz.prog (cx [eP3, eP6, eP7, eP13, eP17, eP25, eP26, eP188, eP189, eP190]) 20000 (eP191).1 (eP191).2.1 h0) = true := by kernel_rfl
theorem runP192 : pureOk 1000 (eP192).2.2 (call Tryz.prog (cx [eP34]) 20000 (eP192).1 (eP192).2.1 h0) = true := by kernel_rfl
theorem runP193 : pureOk 1000 (eP193).2.2 (call Tryz.prog (cx [eP192]) 20000 (eP193).1 (eP193).2.1 h0) = true := by kernel_rfl
theorem runP194 : pureOk 1000 (eP194).2.2 (call Tryz.prog (cx [eP193]) 20000 (eP194).1 (eP194).2.1 h0) = true := by kernel_rfl
theorem runP195 : pureOk 1000 (eP195).2.2 (call Tryz.prog (cx [eP193]) 20000 (eP195).1 (eP195).2.1 h0) = true := by kernel_rfl
theorem runP196 : pureOk 1000 (eP196).2.2 (call Tryz.prog (cx [eP194, eP195]) 20000 (eP196).1 (eP196).2.1 h0) = true := by kernel_rfl
theorem runP197 : pureOk 1000 (eP197).2.2 (call Tryz.prog (cx [eP193]) 20000 (eP197).1 (eP197).2.1 h0) = true := by kernel_rfl
theorem runP198 : pureOk 1000 (eP198).2.2 (call Tryz.prog (cx []) 20000 (eP198).1 (eP198).2.1 h0) = true := by kernel_rfl
theorem runP199 : pureOk 1000 (eP199).2.2 (call Tryz.prog (cx [eP25, eP26, eP126, eP189, eP192, eP194, eP196, eP197, eP198]) 20000 (eP199).1 (eP199).2.1 h0) = true := by kernel_rfl
theorem runP200 : pureOk 1000 (eP200).2.2 (call Tryz.prog (cx [eP199]) 20000 (eP200).1 (eP200).2.1 h0) = true := by kernel_rfl
theorem runP201 : pureOk 1000 (eP201).2.2 (call Tryz.prog (cx [eP54]) 20000 (eP201).1 (eP201).2.1 h0) = true := by kernel_rfl
theorem runP202 : pureOk 1000 (eP202).2.2 (call Tryz.prog (cx [eP199]) 20000 (eP202).1 (eP202).2.1 h0) = true := by kernel_rfl
theorem runP203 : pureOk 1000 (eP203).2.2 (call Tryz.prog (cx []) 20000 (eP203).1 (eP203).2.1 h0) = true := by kernel_rfl
theorem runP204 : pureOk 1000 (eP204).2.2 (call Tryz.prog (cx [eP59, eP193, eP202]) 20000 (eP204).1 (eP204).2.1 h0) = true := by kernel_rfl
theorem runP205 : pureOk 1000 (eP205).2.2 (call Tryz.prog (cx []) 20000 (eP205).1 (eP205).2.1 h0) = true := by kernel_rfl
theorem runP206 : pureOk 1000 (eP206).2.2 (call Tryz.prog (cx [eP205]) 20000 (eP206).1 (eP206).2.1 h0) = true := by kernel_rfl
theorem runP207 : pureOk 1000 (eP207).2.2 (call Tryz.prog (cx [eP205]) 20000 (eP207).1 (eP207).2.1 h0) = true := by kernel_rfl
theorem runP208 : pureOk 1000 (eP208).2.2 (call Tryz.prog (cx [eP205]) 20000 (eP208).1 (eP208).2.1 h0) = true := by kernel_rfl
theorem runP209 : pureOk 1000 (eP209).2.2 (call Tryz.prog (cx [eP205]) 20000 (eP209).1 (eP209).2.1 h0) = true := by kernel_rfl
theorem runP210 : pureOkN 1000 (eP210).2.2 (callAll Tryz.prog (cx [eP59, eP64, eP65, eP66, eP193, eP202, eP203, eP204, eP206, eP207, eP208, eP209]) (nkP []) 20000 (eP210).1 (eP210).2.1) = true := by kernel_rfl
theorem runP211 : pureOk 1000 (eP211).2.2 (call Tryz.prog (cx [eP34, eP54, eP199, eP210]) 20000 (eP211).1 (eP211).2.1 h0) = true := by kernel_rfl
theorem runP212 : pureOk 1000 (eP212).2.2 (call Tryz.prog (cx [eP211]) 20000 (eP212).1 (eP212).2.1 h0) = true := by kernel_rfl
theorem runP213 : pureOk 1000 (eP213).2.2 (call Tryz.prog (cx [eP192]) 20000 (eP213).1 (eP213).2.1 h0) = true := by kernel_rfl
theorem runP214 : pureOk 1000 (eP214).2.2 (call Tryz.prog (cx [eP193]) 20000 (eP214).1 (eP214).2.1 h0) = true := by kernel_rfl
theorem runP215 : pureOk 1000 (eP215).2.2 (call Tryz.prog (cx [eP202, eP210, eP213, eP214]) 20000 (eP215).1 (eP215).2.1 h0) = true := by kernel_rfl
theorem runP216 : pureOk 1000 (eP216).2.2 (call Tryz.prog (cx [eP59, eP193, eP202]) 20000 (eP216).1 (eP216).2.1 h0) = true := by kernel_rfl
theorem runP217 : pureOk 1000 (eP217).2.2 (call Tryz.prog (cx [eP210, eP216]) 20000 (eP217).1 (eP217).2.1 h0) = true := by kernel_rfl
theorem runP218 : pureOk 1000 (eP218).2.2 (call Tryz.prog (cx [eP59, eP193, eP202]) 20000 (eP218).1 (eP218).2.1 h0) = true := by kernel_rfl
theorem runP219 : pureOk 1000 (eP219).2.2 (call Tryz.prog (cx []) 20000 (eP219).1 (eP219).2.1 h0) = true := by kernel_rfl
theorem runP220 : pureOk 1000 (eP220).2.2 (call Tryz.prog (cx [eP59, eP109, eP193, eP202, eP210, eP217, eP218, eP219]) 20000 (eP220).1 (eP220).2.1 h0) = true := by kernel_rfl
theorem runP221 : pureOk 1000 (eP221).2.2 (call Tryz.prog (cx [eP215, eP220]) 20000 (eP221).1 (eP221).2.1 h0) = true := by kernel_rfl
end Go.Proofs.YtklbkcldlcnidaaGreatDoor
