/- ReloadNames: calls, as the abstract machine reckons them, part 34. -/
import Derived.Test.YtmmjfmbpilfehaaGreatDoorRV
namespace Go.Proofs.YtmmjfmbpilfehaaGreatDoor
open Go.Ax
theorem runR388 : pureOk 1000 (eR388).2.2 (call Tryz.prog (cx [eR3, eR4, eR6, eR9, eR10, eR11, eR12, eR16, eR17, eR18, eR21, eR25, eR26, eR386, eR387]) 20000 (eR388).1 (eR388).2.1 h0) = true := by kernel_rfl
theorem runR389 : pureOk 1000 (eR389).2.2 (call Tryz.prog (cx [eR31]) 20000 (eR389).1 (eR389).2.1 h0) = true := by kernel_rfl
theorem runR390 : pureOk 1000 (eR390).2.2 (call Tryz.prog (cx [eR389]) 20000 (eR390).1 (eR390).2.1 h0) = true := by kernel_rfl
theorem runR391 : pureOk 1000 (eR391).2.2 (call Tryz.prog (cx [eR390]) 20000 (eR391).1 (eR391).2.1 h0) = true := by kernel_rfl
theorem runR392 : pureOk 1000 (eR392).2.2 (call Tryz.prog (cx [eR390]) 20000 (eR392).1 (eR392).2.1 h0) = true := by kernel_rfl
theorem runR393 : pureOk 1000 (eR393).2.2 (call Tryz.prog (cx [eR391, eR392]) 20000 (eR393).1 (eR393).2.1 h0) = true := by kernel_rfl
theorem runR394 : pureOk 1000 (eR394).2.2 (call Tryz.prog (cx [eR390]) 20000 (eR394).1 (eR394).2.1 h0) = true := by kernel_rfl
theorem runR395 : pureOk 1000 (eR395).2.2 (call Tryz.prog (cx [eR389]) 20000 (eR395).1 (eR395).2.1 h0) = true := by kernel_rfl
theorem runR396 : pureOk 1000 (eR396).2.2 (call Tryz.prog (cx [eR395]) 20000 (eR396).1 (eR396).2.1 h0) = true := by kernel_rfl
theorem runR397 : pureOk 1000 (eR397).2.2 (call Tryz.prog (cx [eR395]) 20000 (eR397).1 (eR397).2.1 h0) = true := by kernel_rfl
theorem runR398 : pureOk 1000 (eR398).2.2 (call Tryz.prog (cx [eR396, eR397]) 20000 (eR398).1 (eR398).2.1 h0) = true := by kernel_rfl
theorem runR399 : pureOk 1000 (eR399).2.2 (call Tryz.prog (cx [eR395]) 20000 (eR399).1 (eR399).2.1 h0) = true := by kernel_rfl
theorem runR400 : pureOk 1000 (eR400).2.2 (call Tryz.prog (cx []) 20000 (eR400).1 (eR400).2.1 h0) = true := by kernel_rfl
theorem runR401 : pureOk 1000 (eR401).2.2 (call Tryz.prog (cx [eR395]) 20000 (eR401).1 (eR401).2.1 h0) = true := by kernel_rfl
end Go.Proofs.YtmmjfmbpilfehaaGreatDoor
