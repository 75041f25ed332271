/- EscapeNames: calls, as the abstract machine reckons them, part 32. -/
import Derived.Test.YtlimihfdpfgedaaGreatDoorEV
namespace Go.Proofs.YtlimihfdpfgedaaGreatDoor
open Go.Ax
theorem runE417 : pureOk 1000 (eE417).2.2 (call Tryz.prog (cx [eE43, eE46, eE356, eE363, eE369]) 20000 (eE417).1 (eE417).2.1 h0) = true := by kernel_rfl
theorem runE418 : pureOk 1000 (eE418).2.2 (call Tryz.prog (cx [eE416, eE417]) 20000 (eE418).1 (eE418).2.1 h0) = true := by kernel_rfl
theorem runE419 : pureOk 1000 (eE419).2.2 (call Tryz.prog (cx [eE43, eE46, eE356, eE363, eE369]) 20000 (eE419).1 (eE419).2.1 h0) = true := by kernel_rfl
theorem runE420 : pureOk 1000 (eE420).2.2 (call Tryz.prog (cx [eE43, eE46, eE72, eE74, eE319, eE356, eE363, eE369, eE416, eE418, eE419]) 20000 (eE420).1 (eE420).2.1 h0) = true := by kernel_rfl
theorem runE421 : pureOk 1000 (eE421).2.2 (call Tryz.prog (cx []) 20000 (eE421).1 (eE421).2.1 h0) = true := by kernel_rfl
theorem runE422 : pureOk 1000 (eE422).2.2 (call Tryz.prog (cx []) 20000 (eE422).1 (eE422).2.1 h0) = true := by kernel_rfl
theorem runE423 : pureOk 1000 (eE423).2.2 (call Tryz.prog (cx []) 20000 (eE423).1 (eE423).2.1 h0) = true := by kernel_rfl
end Go.Proofs.YtlimihfdpfgedaaGreatDoor
