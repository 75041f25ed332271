/- ReloadNames: calls, as the abstract machine reckons them, part 21. -/
import Derived.Test.YtmmjfmbpilfehaaGreatDoorRV
namespace Go.Proofs.YtmmjfmbpilfehaaGreatDoor
open Go.Ax
theorem runR287 : pureOk 1000 (eR287).2.2 (call Tryz.prog (cx [eR286]) 20000 (eR287).1 (eR287).2.1 h0) = true := by kernel_rfl
theorem runR288 : pureOk 1000 (eR288).2.2 (call Tryz.prog (cx [eR84, eR284, eR285, eR287]) 20000 (eR288).1 (eR288).2.1 h0) = true := by kernel_rfl
theorem runR289 : pureOk 1000 (eR289).2.2 (call Tryz.prog (cx [eR12, eR18, eR20, eR26, eR149, eR165, eR274, eR280]) 20000 (eR289).1 (eR289).2.1 h0) = true := by kernel_rfl
theorem runR290 : pureOk 1000 (eR290).2.2 (call Tryz.prog (cx [eR31]) 20000 (eR290).1 (eR290).2.1 h0) = true := by kernel_rfl
theorem runR291 : pureOk 1000 (eR291).2.2 (call Tryz.prog (cx [eR290]) 20000 (eR291).1 (eR291).2.1 h0) = true := by kernel_rfl
theorem runR292 : pureOk 1000 (eR292).2.2 (call Tryz.prog (cx [eR12, eR20, eR26, eR52, eR149, eR165, eR186, eR237, eR238, eR239, eR280, eR291]) 20000 (eR292).1 (eR292).2.1 h0) = true := by kernel_rfl
theorem runR293 : pureOk 1000 (eR293).2.2 (call Tryz.prog (cx [eR31]) 20000 (eR293).1 (eR293).2.1 h0) = true := by kernel_rfl
theorem runR294 : pureOk 1000 (eR294).2.2 (call Tryz.prog (cx [eR293]) 20000 (eR294).1 (eR294).2.1 h0) = true := by kernel_rfl
theorem runR295 : pureOk 1000 (eR295).2.2 (call Tryz.prog (cx [eR294]) 20000 (eR295).1 (eR295).2.1 h0) = true := by kernel_rfl
theorem runR296 : pureOk 1000 (eR296).2.2 (call Tryz.prog (cx [eR294]) 20000 (eR296).1 (eR296).2.1 h0) = true := by kernel_rfl
theorem runR297 : pureOk 1000 (eR297).2.2 (call Tryz.prog (cx [eR295, eR296]) 20000 (eR297).1 (eR297).2.1 h0) = true := by kernel_rfl
theorem runR298 : pureOk 1000 (eR298).2.2 (call Tryz.prog (cx [eR294]) 20000 (eR298).1 (eR298).2.1 h0) = true := by kernel_rfl
theorem runR299 : pureOk 1000 (eR299).2.2 (call Tryz.prog (cx [eR293]) 20000 (eR299).1 (eR299).2.1 h0) = true := by kernel_rfl
theorem runR300 : pureOk 1000 (eR300).2.2 (call Tryz.prog (cx [eR299]) 20000 (eR300).1 (eR300).2.1 h0) = true := by kernel_rfl
theorem runR301 : pureOk 1000 (eR301).2.2 (call Tryz.prog (cx [eR299]) 20000 (eR301).1 (eR301).2.1 h0) = true := by kernel_rfl
theorem runR302 : pureOk 1000 (eR302).2.2 (call Tryz.prog (cx [eR300, eR301]) 20000 (eR302).1 (eR302).2.1 h0) = true := by kernel_rfl
theorem runR303 : pureOk 1000 (eR303).2.2 (call Tryz.prog (cx [eR299]) 20000 (eR303).1 (eR303).2.1 h0) = true := by kernel_rfl
theorem runR304 : pureOk 1000 (eR304).2.2 (call Tryz.prog (cx []) 20000 (eR304).1 (eR304).2.1 h0) = true := by kernel_rfl
end Go.Proofs.YtmmjfmbpilfehaaGreatDoor
