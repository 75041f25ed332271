/- EscapeNames: calls, as the abstract machine reckons them, part 30. -/
import Derived.Test.YtlimihfdpfgedaaGreatDoorEV
namespace Go.Proofs.YtlimihfdpfgedaaGreatDoor
open Go.Ax
theorem runE396 : pureOk 1000 (eE396).2.2 (call Tryz.prog (cx []) 20000 (eE396).1 (eE396).2.1 h0) = true := by kernel_rfl
theorem runE397 : pureOk 1000 (eE397).2.2 (call Tryz.prog (cx []) 20000 (eE397).1 (eE397).2.1 h0) = true := by kernel_rfl
theorem runE398 : pureOk 1000 (eE398).2.2 (call Tryz.prog (cx []) 20000 (eE398).1 (eE398).2.1 h0) = true := by kernel_rfl
theorem runE399 : pureOk 1000 (eE399).2.2 (call Tryz.prog (cx []) 20000 (eE399).1 (eE399).2.1 h0) = true := by kernel_rfl
theorem runE400 : pureOk 1000 (eE400).2.2 (call Tryz.prog (cx []) 20000 (eE400).1 (eE400).2.1 h0) = true := by kernel_rfl
theorem runE401 : pureOk 1000 (eE401).2.2 (call Tryz.prog (cx []) 20000 (eE401).1 (eE401).2.1 h0) = true := by kernel_rfl
theorem runE402 : pureOk 1000 (eE402).2.2 (call Tryz.prog (cx []) 20000 (eE402).1 (eE402).2.1 h0) = true := by kernel_rfl
theorem runE403 : pureOk 1000 (eE403).2.2 (call Tryz.prog (cx []) 20000 (eE403).1 (eE403).2.1 h0) = true := by kernel_rfl
theorem runE404 : pureOk 1000 (eE404).2.2 (call Tryz.prog (cx []) 20000 (eE404).1 (eE404).2.1 h0) = true := by kernel_rfl
theorem runE405 : pureOk 1000 (eE405).2.2 (call Tryz.prog (cx []) 20000 (eE405).1 (eE405).2.1 h0) = true := by kernel_rfl
end Go.Proofs.YtlimihfdpfgedaaGreatDoor
