/- EscapeNames: calls, as the abstract machine reckons them, part 10. -/
import Derived.Test.YtlimihfdpfgedaaGreatDoorEV
namespace Go.Proofs.YtlimihfdpfgedaaGreatDoor
open Go.Ax
theorem runE197 : pureOk 1000 (eE197).2.2 (call Tryz.prog (cx []) 20000 (eE197).1 (eE197).2.1 h0) = true := by kernel_rfl
theorem runE198 : pureOk 1000 (eE198).2.2 (call Tryz.prog (cx []) 20000 (eE198).1 (eE198).2.1 h0) = true := by kernel_rfl
theorem runE199 : pureOk 1000 (eE199).2.2 (call Tryz.prog (cx []) 20000 (eE199).1 (eE199).2.1 h0) = true := by kernel_rfl
theorem runE200 : pureOk 1000 (eE200).2.2 (call Tryz.prog (cx []) 20000 (eE200).1 (eE200).2.1 h0) = true := by kernel_rfl
theorem runE201 : pureOk 1000 (eE201).2.2 (call Tryz.prog (cx []) 20000 (eE201).1 (eE201).2.1 h0) = true := by kernel_rfl
theorem runE202 : pureOk 1000 (eE202).2.2 (call Tryz.prog (cx []) 20000 (eE202).1 (eE202).2.1 h0) = true := by kernel_rfl
theorem runE203 : pureOk 1000 (eE203).2.2 (call Tryz.prog (cx []) 20000 (eE203).1 (eE203).2.1 h0) = true := by kernel_rfl
theorem runE204 : pureOk 1000 (eE204).2.2 (call Tryz.prog (cx []) 20000 (eE204).1 (eE204).2.1 h0) = true := by kernel_rfl
end Go.Proofs.YtlimihfdpfgedaaGreatDoor
