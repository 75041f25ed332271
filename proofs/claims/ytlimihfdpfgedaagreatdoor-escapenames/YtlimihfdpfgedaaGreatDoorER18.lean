/- EscapeNames: calls, as the abstract machine reckons them, part 18. -/
import Derived.Test.YtlimihfdpfgedaaGreatDoorEV
namespace Go.Proofs.YtlimihfdpfgedaaGreatDoor
open Go.Ax
theorem runE261 : pureOk 1000 (eE261).2.2 (call Tryz.prog (cx []) 20000 (eE261).1 (eE261).2.1 h0) = true := by kernel_rfl
theorem runE262 : pureOk 1000 (eE262).2.2 (call Tryz.prog (cx []) 20000 (eE262).1 (eE262).2.1 h0) = true := by kernel_rfl
theorem runE263 : pureOk 1000 (eE263).2.2 (call Tryz.prog (cx []) 20000 (eE263).1 (eE263).2.1 h0) = true := by kernel_rfl
theorem runE264 : pureOk 1000 (eE264).2.2 (call Tryz.prog (cx []) 20000 (eE264).1 (eE264).2.1 h0) = true := by kernel_rfl
theorem runE265 : pureOk 1000 (eE265).2.2 (call Tryz.prog (cx []) 20000 (eE265).1 (eE265).2.1 h0) = true := by kernel_rfl
theorem runE266 : pureOk 1000 (eE266).2.2 (call Tryz.prog (cx []) 20000 (eE266).1 (eE266).2.1 h0) = true := by kernel_rfl
theorem runE267 : pureOk 1000 (eE267).2.2 (call Tryz.prog (cx []) 20000 (eE267).1 (eE267).2.1 h0) = true := by kernel_rfl
theorem runE268 : pureOk 1000 (eE268).2.2 (call Tryz.prog (cx []) 20000 (eE268).1 (eE268).2.1 h0) = true := by kernel_rfl
end Go.Proofs.YtlimihfdpfgedaaGreatDoor
