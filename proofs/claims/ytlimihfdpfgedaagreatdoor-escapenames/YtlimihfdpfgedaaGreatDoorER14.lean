/- EscapeNames: calls, as the abstract machine reckons them, part 14. -/
import Derived.Test.YtlimihfdpfgedaaGreatDoorEV
namespace Go.Proofs.YtlimihfdpfgedaaGreatDoor
open Go.Ax
theorem runE229 : pureOk 1000 (eE229).2.2 (call Tryz.prog (cx []) 20000 (eE229).1 (eE229).2.1 h0) = true := by kernel_rfl
theorem runE230 : pureOk 1000 (eE230).2.2 (call Tryz.prog (cx []) 20000 (eE230).1 (eE230).2.1 h0) = true := by kernel_rfl
theorem runE231 : pureOk 1000 (eE231).2.2 (call Tryz.prog (cx []) 20000 (eE231).1 (eE231).2.1 h0) = true := by kernel_rfl
theorem runE232 : pureOk 1000 (eE232).2.2 (call Tryz.prog (cx []) 20000 (eE232).1 (eE232).2.1 h0) = true := by kernel_rfl
theorem runE233 : pureOk 1000 (eE233).2.2 (call Tryz.prog (cx []) 20000 (eE233).1 (eE233).2.1 h0) = true := by kernel_rfl
theorem runE234 : pureOk 1000 (eE234).2.2 (call Tryz.prog (cx []) 20000 (eE234).1 (eE234).2.1 h0) = true := by kernel_rfl
theorem runE235 : pureOk 1000 (eE235).2.2 (call Tryz.prog (cx []) 20000 (eE235).1 (eE235).2.1 h0) = true := by kernel_rfl
theorem runE236 : pureOk 1000 (eE236).2.2 (call Tryz.prog (cx []) 20000 (eE236).1 (eE236).2.1 h0) = true := by kernel_rfl
end Go.Proofs.YtlimihfdpfgedaaGreatDoor
