/- EscapeNames: calls, as the abstract machine reckons them, part 22. -/
import Derived.Test.YtlimihfdpfgedaaGreatDoorEV
namespace Go.Proofs.YtlimihfdpfgedaaGreatDoor
open Go.Ax
theorem runE293 : pureOk 1000 (eE293).2.2 (call Tryz.prog (cx []) 20000 (eE293).1 (eE293).2.1 h0) = true := by kernel_rfl
theorem runE294 : pureOk 1000 (eE294).2.2 (call Tryz.prog (cx []) 20000 (eE294).1 (eE294).2.1 h0) = true := by kernel_rfl
theorem runE295 : pureOk 1000 (eE295).2.2 (call Tryz.prog (cx []) 20000 (eE295).1 (eE295).2.1 h0) = true := by kernel_rfl
theorem runE296 : pureOk 1000 (eE296).2.2 (call Tryz.prog (cx []) 20000 (eE296).1 (eE296).2.1 h0) = true := by kernel_rfl
theorem runE297 : pureOk 1000 (eE297).2.2 (call Tryz.prog (cx []) 20000 (eE297).1 (eE297).2.1 h0) = true := by kernel_rfl
theorem runE298 : pureOk 1000 (eE298).2.2 (call Tryz.prog (cx []) 20000 (eE298).1 (eE298).2.1 h0) = true := by kernel_rfl
theorem runE299 : pureOk 1000 (eE299).2.2 (call Tryz.prog (cx []) 20000 (eE299).1 (eE299).2.1 h0) = true := by kernel_rfl
theorem runE300 : pureOk 1000 (eE300).2.2 (call Tryz.prog (cx []) 20000 (eE300).1 (eE300).2.1 h0) = true := by kernel_rfl
end Go.Proofs.YtlimihfdpfgedaaGreatDoor
