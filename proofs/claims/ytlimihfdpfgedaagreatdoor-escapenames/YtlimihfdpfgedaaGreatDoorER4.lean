/- EscapeNames: calls, as the abstract machine reckons them, part 4. -/
import Derived.Test.YtlimihfdpfgedaaGreatDoorEV
namespace Go.Proofs.YtlimihfdpfgedaaGreatDoor
open Go.Ax
theorem runE104 : pureOk 1000 (eE104).2.2 (call Tryz.prog (cx []) 20000 (eE104).1 (eE104).2.1 h0) = true := by kernel_rfl
theorem runE105 : pureOk 1000 (eE105).2.2 (call Tryz.prog (cx [eE15]) 20000 (eE105).1 (eE105).2.1 h0) = true := by kernel_rfl
theorem runE106 : pureOk 1000 (eE106).2.2 (call Tryz.prog (cx []) 20000 (eE106).1 (eE106).2.1 h0) = true := by kernel_rfl
theorem runE107 : pureOk 1000 (eE107).2.2 (call Tryz.prog (cx []) 20000 (eE107).1 (eE107).2.1 h0) = true := by kernel_rfl
theorem runE108 : pureOk 1000 (eE108).2.2 (call Tryz.prog (cx [eE5]) 20000 (eE108).1 (eE108).2.1 h0) = true := by kernel_rfl
theorem runE109 : pureOk 1000 (eE109).2.2 (call Tryz.prog (cx [eE15]) 20000 (eE109).1 (eE109).2.1 h0) = true := by kernel_rfl
theorem runE110 : pureOk 1000 (eE110).2.2 (call Tryz.prog (cx [eE8]) 20000 (eE110).1 (eE110).2.1 h0) = true := by kernel_rfl
theorem runE111 : pureOk 1000 (eE111).2.2 (call Tryz.prog (cx [eE8]) 20000 (eE111).1 (eE111).2.1 h0) = true := by kernel_rfl
theorem runE112 : pureOk 1000 (eE112).2.2 (call Tryz.prog (cx []) 20000 (eE112).1 (eE112).2.1 h0) = true := by kernel_rfl
theorem runE113 : pureOk 1000 (eE113).2.2 (call Tryz.prog (cx []) 20000 (eE113).1 (eE113).2.1 h0) = true := by kernel_rfl
end Go.Proofs.YtlimihfdpfgedaaGreatDoor
