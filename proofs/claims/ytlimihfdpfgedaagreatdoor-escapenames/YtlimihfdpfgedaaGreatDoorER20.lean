/- EscapeNames: calls, as the abstract machine reckons them, part 20. -/
import Derived.Test.YtlimihfdpfgedaaGreatDoorEV
namespace Go.Proofs.YtlimihfdpfgedaaGreatDoor
open Go.Ax
theorem runE277 : pureOk 1000 (eE277).2.2 (call Tryz.prog (cx []) 20000 (eE277).1 (eE277).2.1 h0) = true := by kernel_rfl
theorem runE278 : pureOk 1000 (eE278).2.2 (call Tryz.prog (cx []) 20000 (eE278).1 (eE278).2.1 h0) = true := by kernel_rfl
theorem runE279 : pureOk 1000 (eE279).2.2 (call Tryz.prog (cx []) 20000 (eE279).1 (eE279).2.1 h0) = true := by kernel_rfl
theorem runE280 : pureOk 1000 (eE280).2.2 (call Tryz.prog (cx []) 20000 (eE280).1 (eE280).2.1 h0) = true := by kernel_rfl
theorem runE281 : pureOk 1000 (eE281).2.2 (call Tryz.prog (cx []) 20000 (eE281).1 (eE281).2.1 h0) = true := by kernel_rfl
theorem runE282 : pureOk 1000 (eE282).2.2 (call Tryz.prog (cx []) 20000 (eE282).1 (eE282).2.1 h0) = true := by kernel_rfl
theorem runE283 : pureOk 1000 (eE283).2.2 (call Tryz.prog (cx []) 20000 (eE283).1 (eE283).2.1 h0) = true := by kernel_rfl
theorem runE284 : pureOk 1000 (eE284).2.2 (call Tryz.prog (cx []) 20000 (eE284).1 (eE284).2.1 h0) = true := by kernel_rfl
end Go.Proofs.YtlimihfdpfgedaaGreatDoor
