/- EscapeNames: calls, as the abstract machine reckons them, part 16. -/
import Derived.Test.YtlimihfdpfgedaaGreatDoorEV
namespace Go.Proofs.YtlimihfdpfgedaaGreatDoor
open Go.Ax
theorem runE245 : pureOk 1000 (eE245).2.2 (call Tryz.prog (cx []) 20000 (eE245).1 (eE245).2.1 h0) = true := by kernel_rfl
theorem runE246 : pureOk 1000 (eE246).2.2 (call Tryz.prog (cx []) 20000 (eE246).1 (eE246).2.1 h0) = true := by kernel_rfl
theorem runE247 : pureOk 1000 (eE247).2.2 (call Tryz.prog (cx []) 20000 (eE247).1 (eE247).2.1 h0) = true := by kernel_rfl
theorem runE248 : pureOk 1000 (eE248).2.2 (call Tryz.prog (cx []) 20000 (eE248).1 (eE248).2.1 h0) = true := by kernel_rfl
theorem runE249 : pureOk 1000 (eE249).2.2 (call Tryz.prog (cx []) 20000 (eE249).1 (eE249).2.1 h0) = true := by kernel_rfl
theorem runE250 : pureOk 1000 (eE250).2.2 (call Tryz.prog (cx []) 20000 (eE250).1 (eE250).2.1 h0) = true := by kernel_rfl
theorem runE251 : pureOk 1000 (eE251).2.2 (call Tryz.prog (cx []) 20000 (eE251).1 (eE251).2.1 h0) = true := by kernel_rfl
theorem runE252 : pureOk 1000 (eE252).2.2 (call Tryz.prog (cx []) 20000 (eE252).1 (eE252).2.1 h0) = true := by kernel_rfl
end Go.Proofs.YtlimihfdpfgedaaGreatDoor
