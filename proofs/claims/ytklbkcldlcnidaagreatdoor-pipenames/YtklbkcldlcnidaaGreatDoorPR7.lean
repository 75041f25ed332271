/- PipeNames: calls, as the abstract machine reckons them, part 7. -/
import Derived.Test.YtklbkcldlcnidaaGreatDoorPV
namespace Go.Proofs.YtklbkcldlcnidaaGreatDoor
open Go.Ax
theorem runP170 : pureOk 1000 (eP170).2.2 (call Tryz.prog (cx [eP27, eP28, eP29, eP30, eP52, eP91, eP93, eP159, eP161, eP163, eP164, eP166, eP168, eP169]) 20000 (eP170).1 (eP170).2.1 h0) = true := by kernel_rfl
theorem runP171 : pureOk 1000 (eP171).2.2 (call Tryz.prog (cx [eP53, eP55, eP85, eP99, eP118, eP128, eP140, eP156, eP158, eP170]) 20000 (eP171).1 (eP171).2.1 h0) = true := by kernel_rfl
theorem runP172 : pureOk 1000 (eP172).2.2 (call Tryz.prog (cx [eP171]) 20000 (eP172).1 (eP172).2.1 h0) = true := by kernel_rfl
theorem runP173 : pureOk 1000 (eP173).2.2 (call Tryz.prog (cx []) 20000 (eP173).1 (eP173).2.1 h0) = true := by kernel_rfl
theorem runP174 : pureOk 1000 (eP174).2.2 (call Tryz.prog (cx []) 20000 (eP174).1 (eP174).2.1 h0) = true := by kernel_rfl
theorem runP175 : pureOk 1000 (eP175).2.2 (call Tryz.prog (cx []) 20000 (eP175).1 (eP175).2.1 h0) = true := by kernel_rfl
theorem runP176 : pureOk 1000 (eP176).2.2 (call Tryz.prog (cx [eP27, eP28, eP29, eP30, eP91, eP93, eP159, eP173, eP174, eP175]) 20000 (eP176).1 (eP176).2.1 h0) = true := by kernel_rfl
theorem runP177 : pureOk 1000 (eP177).2.2 (call Tryz.prog (cx [eP33, eP172, eP176]) 20000 (eP177).1 (eP177).2.1 h0) = true := by kernel_rfl
theorem runP178 : pureOk 1000 (eP178).2.2 (call Tryz.prog (cx []) 20000 (eP178).1 (eP178).2.1 h0) = true := by kernel_rfl
theorem runP179 : pureOk 1000 (eP179).2.2 (call Tryz.prog (cx [eP178]) 20000 (eP179).1 (eP179).2.1 h0) = true := by kernel_rfl
theorem runP180 : pureOk 1000 (eP180).2.2 (call Tryz.prog (cx [eP179]) 20000 (eP180).1 (eP180).2.1 h0) = true := by kernel_rfl
theorem runP181 : pureOk 1000 (eP181).2.2 (call Tryz.prog (cx []) 20000 (eP181).1 (eP181).2.1 h0) = true := by kernel_rfl
theorem runP182 : pureOk 1000 (eP182).2.2 (call Tryz.prog (cx [eP3, eP6, eP7, eP181]) 20000 (eP182).1 (eP182).2.1 h0) = true := by kernel_rfl
theorem runP183 : pureOk 1000 (eP183).2.2 (call Tryz.prog (cx [eP182]) 20000 (eP183).1 (eP183).2.1 h0) = true := by kernel_rfl
theorem runP184 : pureOk 1000 (eP184).2.2 (call Tryz.prog (cx []) 20000 (eP184).1 (eP184).2.1 h0) = true := by kernel_rfl
theorem runP185 : pureOk 1000 (eP185).2.2 (call Tryz.prog (cx [eP184]) 20000 (eP185).1 (eP185).2.1 h0) = true := by kernel_rfl
theorem runP186 : pureOk 1000 (eP186).2.2 (call Tryz.prog (cx [eP185]) 20000 (eP186).1 (eP186).2.1 h0) = true := by kernel_rfl
theorem runP187 : pureOk 1000 (eP187).2.2 (call Tryz.prog (cx [eP186]) 20000 (eP187).1 (eP187).2.1 h0) = true := by kernel_rfl
end Go.Proofs.YtklbkcldlcnidaaGreatDoor
