/- ResolveNames: calls, as the abstract machine reckons them, part 7. -/
import Derived.Test.YtlimihfdpfgedaaGreatDoorQV
namespace Go.Proofs.YtlimihfdpfgedaaGreatDoor
open Go.Ax
theorem runQ154 : pureOk 1000 (eQ154).2.2 (call Tryz.prog (cx [eQ11, eQ15, eQ16, eQ25, eQ30, eQ32, eQ33, eQ36, eQ42, eQ45, eQ118, eQ119, eQ120, eQ121, eQ151, eQ152, eQ153]) 20000 (eQ154).1 (eQ154).2.1 h0) = true := by kernel_rfl
end Go.Proofs.YtlimihfdpfgedaaGreatDoor
