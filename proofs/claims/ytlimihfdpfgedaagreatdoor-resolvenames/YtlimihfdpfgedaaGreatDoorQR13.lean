/- ResolveNames: calls, as the abstract machine reckons them, part 13. -/
import Derived.Test.YtlimihfdpfgedaaGreatDoorQV
namespace Go.Proofs.YtlimihfdpfgedaaGreatDoor
open Go.Ax
theorem runQ208 : pureOk 1000 (eQ208).2.2 (call Tryz.prog (cx [eQ11, eQ15, eQ16, eQ25, eQ30, eQ32, eQ33, eQ43, eQ45, eQ46, eQ49, eQ50, eQ51, eQ57, eQ63, eQ156, eQ165, eQ189, eQ191, eQ193, eQ194, eQ195, eQ196, eQ197, eQ199, eQ201, eQ202, eQ204, eQ206, eQ207]) 20000 (eQ208).1 (eQ208).2.1 h0) = true := by kernel_rfl
theorem runQ209 : pureOk 1000 (eQ209).2.2 (call Tryz.prog (cx [eQ208]) 20000 (eQ209).1 (eQ209).2.1 h0) = true := by kernel_rfl
theorem runQ210 : pureOk 1000 (eQ210).2.2 (call Tryz.prog (cx [eQ190, eQ198, eQ203, eQ209]) 20000 (eQ210).1 (eQ210).2.1 h0) = true := by kernel_rfl
theorem runQ211 : pureOk 1000 (eQ211).2.2 (call Tryz.prog (cx []) 20000 (eQ211).1 (eQ211).2.1 h0) = true := by kernel_rfl
theorem runQ212 : pureOk 1000 (eQ212).2.2 (call Tryz.prog (cx []) 20000 (eQ212).1 (eQ212).2.1 h0) = true := by kernel_rfl
theorem runQ213 : pureOk 1000 (eQ213).2.2 (call Tryz.prog (cx []) 20000 (eQ213).1 (eQ213).2.1 h0) = true := by kernel_rfl
theorem runQ214 : pureOk 1000 (eQ214).2.2 (call Tryz.prog (cx []) 20000 (eQ214).1 (eQ214).2.1 h0) = true := by kernel_rfl
theorem runQ215 : pureOkN 1000 (eQ215).2.2 (callAll Tryz.prog (cx [eQ100, eQ105, eQ126, eQ129, eQ130, eQ131, eQ132, eQ133, eQ138, eQ139, eQ140, eQ141, eQ142, eQ143, eQ144, eQ145, eQ179, eQ180, eQ190, eQ198, eQ203, eQ209, eQ210, eQ211, eQ212, eQ213, eQ214]) (nkQ []) 20000 (eQ215).1 (eQ215).2.1) = true := by kernel_rfl
theorem runQ216 : pureOk 1000 (eQ216).2.2 (call Tryz.prog (cx []) 20000 (eQ216).1 (eQ216).2.1 h0) = true := by kernel_rfl
theorem runQ217 : pureOk 1000 (eQ217).2.2 (call Tryz.prog (cx [eQ216]) 20000 (eQ217).1 (eQ217).2.1 h0) = true := by kernel_rfl
theorem runQ218 : pureOk 1000 (eQ218).2.2 (call Tryz.prog (cx [eQ35, eQ94, eQ149, eQ184, eQ208, eQ215, eQ217]) 20000 (eQ218).1 (eQ218).2.1 h0) = true := by kernel_rfl
end Go.Proofs.YtlimihfdpfgedaaGreatDoor
