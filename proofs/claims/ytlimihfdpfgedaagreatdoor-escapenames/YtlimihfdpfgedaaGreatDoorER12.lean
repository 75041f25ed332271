/- EscapeNames: calls, as the abstract machine reckons them, part 12. -/
import Derived.Test.YtlimihfdpfgedaaGreatDoorEV
namespace Go.Proofs.YtlimihfdpfgedaaGreatDoor
open Go.Ax
theorem runE213 : pureOk 1000 (eE213).2.2 (call Tryz.prog (cx []) 20000 (eE213).1 (eE213).2.1 h0) = true := by kernel_rfl
theorem runE214 : pureOk 1000 (eE214).2.2 (call Tryz.prog (cx []) 20000 (eE214).1 (eE214).2.1 h0) = true := by kernel_rfl
theorem runE215 : pureOk 1000 (eE215).2.2 (call Tryz.prog (cx []) 20000 (eE215).1 (eE215).2.1 h0) = true := by kernel_rfl
theorem runE216 : pureOk 1000 (eE216).2.2 (call Tryz.prog (cx []) 20000 (eE216).1 (eE216).2.1 h0) = true := by kernel_rfl
theorem runE217 : pureOk 1000 (eE217).2.2 (call Tryz.prog (cx []) 20000 (eE217).1 (eE217).2.1 h0) = true := by kernel_rfl
theorem runE218 : pureOk 1000 (eE218).2.2 (call Tryz.prog (cx []) 20000 (eE218).1 (eE218).2.1 h0) = true := by kernel_rfl
theorem runE219 : pureOk 1000 (eE219).2.2 (call Tryz.prog (cx []) 20000 (eE219).1 (eE219).2.1 h0) = true := by kernel_rfl
theorem runE220 : pureOk 1000 (eE220).2.2 (call Tryz.prog (cx []) 20000 (eE220).1 (eE220).2.1 h0) = true := by kernel_rfl
end Go.Proofs.YtlimihfdpfgedaaGreatDoor
