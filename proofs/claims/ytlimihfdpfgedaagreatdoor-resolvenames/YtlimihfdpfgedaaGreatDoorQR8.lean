/- ResolveNames: calls, as the abstract machine reckons them, part 8. -/
import Derived.Test.YtlimihfdpfgedaaGreatDoorQV
namespace Go.Proofs.YtlimihfdpfgedaaGreatDoor
open Go.Ax
theorem runQ155 : pureOk 1000 (eQ155).2.2 (call Tryz.prog (cx []) 20000 (eQ155).1 (eQ155).2.1 h0) = true := by kernel_rfl
theorem runQ156 : pureOk 1000 (eQ156).2.2 (call Tryz.prog (cx []) 20000 (eQ156).1 (eQ156).2.1 h0) = true := by kernel_rfl
theorem runQ157 : pureOk 1000 (eQ157).2.2 (call Tryz.prog (cx []) 20000 (eQ157).1 (eQ157).2.1 h0) = true := by kernel_rfl
theorem runQ158 : pureOk 1000 (eQ158).2.2 (call Tryz.prog (cx [eQ3, eQ6, eQ7, eQ10, eQ14, eQ19, eQ21, eQ30, eQ31, eQ32, eQ33, eQ71, eQ72, eQ155, eQ156, eQ157]) 20000 (eQ158).1 (eQ158).2.1 h0) = true := by kernel_rfl
theorem runQ159 : pureOk 1000 (eQ159).2.2 (call Tryz.prog (cx [eQ35]) 20000 (eQ159).1 (eQ159).2.1 h0) = true := by kernel_rfl
theorem runQ160 : pureOk 1000 (eQ160).2.2 (call Tryz.prog (cx [eQ159]) 20000 (eQ160).1 (eQ160).2.1 h0) = true := by kernel_rfl
theorem runQ161 : pureOk 1000 (eQ161).2.2 (call Tryz.prog (cx [eQ160]) 20000 (eQ161).1 (eQ161).2.1 h0) = true := by kernel_rfl
theorem runQ162 : pureOk 1000 (eQ162).2.2 (call Tryz.prog (cx [eQ160]) 20000 (eQ162).1 (eQ162).2.1 h0) = true := by kernel_rfl
theorem runQ163 : pureOk 1000 (eQ163).2.2 (call Tryz.prog (cx [eQ161, eQ162]) 20000 (eQ163).1 (eQ163).2.1 h0) = true := by kernel_rfl
theorem runQ164 : pureOk 1000 (eQ164).2.2 (call Tryz.prog (cx [eQ160]) 20000 (eQ164).1 (eQ164).2.1 h0) = true := by kernel_rfl
theorem runQ165 : pureOk 1000 (eQ165).2.2 (call Tryz.prog (cx []) 20000 (eQ165).1 (eQ165).2.1 h0) = true := by kernel_rfl
end Go.Proofs.YtlimihfdpfgedaaGreatDoor
