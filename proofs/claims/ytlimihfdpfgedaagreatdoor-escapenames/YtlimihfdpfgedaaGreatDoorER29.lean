/- EscapeNames: calls, as the abstract machine reckons them, part 29. -/
import Derived.Test.YtlimihfdpfgedaaGreatDoorEV
namespace Go.Proofs.YtlimihfdpfgedaaGreatDoor
open Go.Ax
theorem runE384 : pureOk 1000 (eE384).2.2 (call Tryz.prog (cx []) 20000 (eE384).1 (eE384).2.1 h0) = true := by kernel_rfl
theorem runE385 : pureOk 1000 (eE385).2.2 (call Tryz.prog (cx []) 20000 (eE385).1 (eE385).2.1 h0) = true := by kernel_rfl
theorem runE386 : pureOk 1000 (eE386).2.2 (call Tryz.prog (cx []) 20000 (eE386).1 (eE386).2.1 h0) = true := by kernel_rfl
theorem runE387 : pureOk 1000 (eE387).2.2 (call Tryz.prog (cx []) 20000 (eE387).1 (eE387).2.1 h0) = true := by kernel_rfl
theorem runE388 : pureOk 1000 (eE388).2.2 (call Tryz.prog (cx []) 20000 (eE388).1 (eE388).2.1 h0) = true := by kernel_rfl
theorem runE389 : pureOk 1000 (eE389).2.2 (call Tryz.prog (cx []) 20000 (eE389).1 (eE389).2.1 h0) = true := by kernel_rfl
theorem runE390 : pureOk 1000 (eE390).2.2 (call Tryz.prog (cx []) 20000 (eE390).1 (eE390).2.1 h0) = true := by kernel_rfl
theorem runE391 : pureOk 1000 (eE391).2.2 (call Tryz.prog (cx []) 20000 (eE391).1 (eE391).2.1 h0) = true := by kernel_rfl
theorem runE392 : pureOk 1000 (eE392).2.2 (call Tryz.prog (cx []) 20000 (eE392).1 (eE392).2.1 h0) = true := by kernel_rfl
theorem runE393 : pureOk 1000 (eE393).2.2 (call Tryz.prog (cx []) 20000 (eE393).1 (eE393).2.1 h0) = true := by kernel_rfl
theorem runE394 : pureOk 1000 (eE394).2.2 (call Tryz.prog (cx []) 20000 (eE394).1 (eE394).2.1 h0) = true := by kernel_rfl
theorem runE395 : pureOk 1000 (eE395).2.2 (call Tryz.prog (cx []) 20000 (eE395).1 (eE395).2.1 h0) = true := by kernel_rfl
end Go.Proofs.YtlimihfdpfgedaaGreatDoor
