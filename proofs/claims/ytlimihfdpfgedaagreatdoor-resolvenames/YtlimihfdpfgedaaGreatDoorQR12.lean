/- ResolveNames: calls, as the abstract machine reckons them, part 12. -/
import Derived.Test.YtlimihfdpfgedaaGreatDoorQV
namespace Go.Proofs.YtlimihfdpfgedaaGreatDoor
open Go.Ax
theorem runQ188 : pureOk 1000 (eQ188).2.2 (call Tryz.prog (cx [eQ3, eQ6, eQ7, eQ10, eQ11, eQ12, eQ14, eQ15, eQ16, eQ17, eQ18, eQ19, eQ20, eQ23, eQ24, eQ25, eQ26, eQ29, eQ30, eQ31, eQ32, eQ33, eQ156, eQ157, eQ187]) 20000 (eQ188).1 (eQ188).2.1 h0) = true := by kernel_rfl
theorem runQ189 : pureOk 1000 (eQ189).2.2 (call Tryz.prog (cx [eQ35]) 20000 (eQ189).1 (eQ189).2.1 h0) = true := by kernel_rfl
theorem runQ190 : pureOk 1000 (eQ190).2.2 (call Tryz.prog (cx [eQ189]) 20000 (eQ190).1 (eQ190).2.1 h0) = true := by kernel_rfl
theorem runQ191 : pureOk 1000 (eQ191).2.2 (call Tryz.prog (cx [eQ190]) 20000 (eQ191).1 (eQ191).2.1 h0) = true := by kernel_rfl
theorem runQ192 : pureOk 1000 (eQ192).2.2 (call Tryz.prog (cx [eQ190]) 20000 (eQ192).1 (eQ192).2.1 h0) = true := by kernel_rfl
theorem runQ193 : pureOk 1000 (eQ193).2.2 (call Tryz.prog (cx [eQ191, eQ192]) 20000 (eQ193).1 (eQ193).2.1 h0) = true := by kernel_rfl
theorem runQ194 : pureOk 1000 (eQ194).2.2 (call Tryz.prog (cx [eQ190]) 20000 (eQ194).1 (eQ194).2.1 h0) = true := by kernel_rfl
theorem runQ195 : pureOk 1000 (eQ195).2.2 (call Tryz.prog (cx [eQ190]) 20000 (eQ195).1 (eQ195).2.1 h0) = true := by kernel_rfl
theorem runQ196 : pureOk 1000 (eQ196).2.2 (call Tryz.prog (cx [eQ190]) 20000 (eQ196).1 (eQ196).2.1 h0) = true := by kernel_rfl
theorem runQ197 : pureOk 1000 (eQ197).2.2 (call Tryz.prog (cx [eQ190]) 20000 (eQ197).1 (eQ197).2.1 h0) = true := by kernel_rfl
theorem runQ198 : pureOk 1000 (eQ198).2.2 (call Tryz.prog (cx [eQ189]) 20000 (eQ198).1 (eQ198).2.1 h0) = true := by kernel_rfl
theorem runQ199 : pureOk 1000 (eQ199).2.2 (call Tryz.prog (cx [eQ198]) 20000 (eQ199).1 (eQ199).2.1 h0) = true := by kernel_rfl
theorem runQ200 : pureOk 1000 (eQ200).2.2 (call Tryz.prog (cx [eQ198]) 20000 (eQ200).1 (eQ200).2.1 h0) = true := by kernel_rfl
theorem runQ201 : pureOk 1000 (eQ201).2.2 (call Tryz.prog (cx [eQ199, eQ200]) 20000 (eQ201).1 (eQ201).2.1 h0) = true := by kernel_rfl
theorem runQ202 : pureOk 1000 (eQ202).2.2 (call Tryz.prog (cx [eQ198]) 20000 (eQ202).1 (eQ202).2.1 h0) = true := by kernel_rfl
theorem runQ203 : pureOk 1000 (eQ203).2.2 (call Tryz.prog (cx [eQ189]) 20000 (eQ203).1 (eQ203).2.1 h0) = true := by kernel_rfl
theorem runQ204 : pureOk 1000 (eQ204).2.2 (call Tryz.prog (cx [eQ203]) 20000 (eQ204).1 (eQ204).2.1 h0) = true := by kernel_rfl
theorem runQ205 : pureOk 1000 (eQ205).2.2 (call Tryz.prog (cx [eQ203]) 20000 (eQ205).1 (eQ205).2.1 h0) = true := by kernel_rfl
theorem runQ206 : pureOk 1000 (eQ206).2.2 (call Tryz.prog (cx [eQ204, eQ205]) 20000 (eQ206).1 (eQ206).2.1 h0) = true := by kernel_rfl
theorem runQ207 : pureOk 1000 (eQ207).2.2 (call Tryz.prog (cx [eQ203]) 20000 (eQ207).1 (eQ207).2.1 h0) = true := by kernel_rfl
end Go.Proofs.YtlimihfdpfgedaaGreatDoor
