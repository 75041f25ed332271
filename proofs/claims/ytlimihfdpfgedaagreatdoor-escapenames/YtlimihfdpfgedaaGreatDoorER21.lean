/- EscapeNames: calls, as the abstract machine reckons them, part 21. -/
import Derived.Test.YtlimihfdpfgedaaGreatDoorEV
namespace Go.Proofs.YtlimihfdpfgedaaGreatDoor
open Go.Ax
theorem runE285 : pureOk 1000 (eE285).2.2 (call Tryz.prog (cx []) 20000 (eE285).1 (eE285).2.1 h0) = true := by kernel_rfl
theorem runE286 : pureOk 1000 (eE286).2.2 (call Tryz.prog (cx []) 20000 (eE286).1 (eE286).2.1 h0) = true := by kernel_rfl
theorem runE287 : pureOk 1000 (eE287).2.2 (call Tryz.prog (cx []) 20000 (eE287).1 (eE287).2.1 h0) = true := by kernel_rfl
theorem runE288 : pureOk 1000 (eE288).2.2 (call Tryz.prog (cx []) 20000 (eE288).1 (eE288).2.1 h0) = true := by kernel_rfl
theorem runE289 : pureOk 1000 (eE289).2.2 (call Tryz.prog (cx []) 20000 (eE289).1 (eE289).2.1 h0) = true := by kernel_rfl
theorem runE290 : pureOk 1000 (eE290).2.2 (call Tryz.prog (cx []) 20000 (eE290).1 (eE290).2.1 h0) = true := by kernel_rfl
theorem runE291 : pureOk 1000 (eE291).2.2 (call Tryz.prog (cx []) 20000 (eE291).1 (eE291).2.1 h0) = true := by kernel_rfl
theorem runE292 : pureOk 1000 (eE292).2.2 (call Tryz.prog (cx []) 20000 (eE292).1 (eE292).2.1 h0) = true := by kernel_rfl
end Go.Proofs.YtlimihfdpfgedaaGreatDoor
