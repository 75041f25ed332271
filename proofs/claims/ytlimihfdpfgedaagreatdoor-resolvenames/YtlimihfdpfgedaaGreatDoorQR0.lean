/- ResolveNames: calls, as the abstract machine reckons them, part 0. -/
import Derived.Test.YtlimihfdpfgedaaGreatDoorQV
namespace Go.Proofs.YtlimihfdpfgedaaGreatDoor
open Go.Ax
theorem runQ0 : pureOk 1000 (eQ0).2.2 (call Tryz.prog (cx []) 20000 (eQ0).1 (eQ0).2.1 h0) = true := by kernel_rfl
theorem runQ1 : pureOk 1000 (eQ1).2.2 (call Tryz.prog (cx []) 20000 (eQ1).1 (eQ1).2.1 h0) = true := by kernel_rfl
theorem runQ2 : pureOk 1000 (eQ2).2.2 (call Tryz.prog (cx [eQ1]) 20000 (eQ2).1 (eQ2).2.1 h0) = true := by kernel_rfl
theorem runQ3 : pureOk 1000 (eQ3).2.2 (call Tryz.prog (cx [eQ2]) 20000 (eQ3).1 (eQ3).2.1 h0) = true := by kernel_rfl
theorem runQ4 : pureOk 1000 (eQ4).2.2 (call Tryz.prog (cx []) 20000 (eQ4).1 (eQ4).2.1 h0) = true := by kernel_rfl
theorem runQ5 : pureOk 1000 (eQ5).2.2 (call Tryz.prog (cx [eQ4]) 20000 (eQ5).1 (eQ5).2.1 h0) = true := by kernel_rfl
theorem runQ6 : pureOk 1000 (eQ6).2.2 (call Tryz.prog (cx [eQ5]) 20000 (eQ6).1 (eQ6).2.1 h0) = true := by kernel_rfl
theorem runQ7 : pureOk 1000 (eQ7).2.2 (call Tryz.prog (cx [eQ2]) 20000 (eQ7).1 (eQ7).2.1 h0) = true := by kernel_rfl
theorem runQ8 : pureOk 1000 (eQ8).2.2 (call Tryz.prog (cx []) 20000 (eQ8).1 (eQ8).2.1 h0) = true := by kernel_rfl
theorem runQ9 : pureOk 1000 (eQ9).2.2 (call Tryz.prog (cx [eQ8]) 20000 (eQ9).1 (eQ9).2.1 h0) = true := by kernel_rfl
theorem runQ10 : pureOk 1000 (eQ10).2.2 (call Tryz.prog (cx [eQ9]) 20000 (eQ10).1 (eQ10).2.1 h0) = true := by kernel_rfl
theorem runQ11 : pureOk 1000 (eQ11).2.2 (call Tryz.prog (cx []) 20000 (eQ11).1 (eQ11).2.1 h0) = true := by kernel_rfl
theorem runQ12 : pureOk 1000 (eQ12).2.2 (call Tryz.prog (cx []) 20000 (eQ12).1 (eQ12).2.1 h0) = true := by kernel_rfl
theorem runQ13 : pureOk 1000 (eQ13).2.2 (call Tryz.prog (cx [eQ5]) 20000 (eQ13).1 (eQ13).2.1 h0) = true := by kernel_rfl
theorem runQ14 : pureOk 1000 (eQ14).2.2 (call Tryz.prog (cx [eQ5]) 20000 (eQ14).1 (eQ14).2.1 h0) = true := by kernel_rfl
theorem runQ15 : pureOk 1000 (eQ15).2.2 (call Tryz.prog (cx []) 20000 (eQ15).1 (eQ15).2.1 h0) = true := by kernel_rfl
theorem runQ16 : pureOk 1000 (eQ16).2.2 (call Tryz.prog (cx []) 20000 (eQ16).1 (eQ16).2.1 h0) = true := by kernel_rfl
theorem runQ17 : pureOk 1000 (eQ17).2.2 (call Tryz.prog (cx [eQ5]) 20000 (eQ17).1 (eQ17).2.1 h0) = true := by kernel_rfl
theorem runQ18 : pureOk 1000 (eQ18).2.2 (call Tryz.prog (cx [eQ9]) 20000 (eQ18).1 (eQ18).2.1 h0) = true := by kernel_rfl
theorem runQ19 : pureOk 1000 (eQ19).2.2 (call Tryz.prog (cx [eQ9]) 20000 (eQ19).1 (eQ19).2.1 h0) = true := by kernel_rfl
theorem runQ20 : pureOk 1000 (eQ20).2.2 (call Tryz.prog (cx [eQ9]) 20000 (eQ20).1 (eQ20).2.1 h0) = true := by kernel_rfl
end Go.Proofs.YtlimihfdpfgedaaGreatDoor
