/- ResolveNames: calls, as the abstract machine reckons them, part 14. -/
import Derived.Test.YtlimihfdpfgedaaGreatDoorQV
namespace Go.Proofs.YtlimihfdpfgedaaGreatDoor
open Go.Ax
theorem runQ219 : pureOk 1000 (eQ219).2.2 (call Tryz.prog (cx [eQ35]) 20000 (eQ219).1 (eQ219).2.1 h0) = true := by kernel_rfl
theorem runQ220 : pureOk 1000 (eQ220).2.2 (call Tryz.prog (cx []) 20000 (eQ220).1 (eQ220).2.1 h0) = true := by kernel_rfl
theorem runQ221 : pureOk 1000 (eQ221).2.2 (call Tryz.prog (cx [eQ11, eQ15, eQ16, eQ25, eQ32, eQ33, eQ45, eQ118, eQ119, eQ120, eQ121, eQ122, eQ151, eQ153, eQ156, eQ165, eQ219, eQ220]) 20000 (eQ221).1 (eQ221).2.1 h0) = true := by kernel_rfl
end Go.Proofs.YtlimihfdpfgedaaGreatDoor
