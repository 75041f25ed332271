/- ResolveNames: calls, as the abstract machine reckons them, part 10. -/
import Derived.Test.YtlimihfdpfgedaaGreatDoorQV
namespace Go.Proofs.YtlimihfdpfgedaaGreatDoor
open Go.Ax
theorem runQ186 : pureOk 1000 (eQ186).2.2 (call Tryz.prog (cx [eQ30, eQ31, eQ32, eQ33, eQ71, eQ80, eQ118, eQ119, eQ120, eQ121, eQ156, eQ159, eQ165]) 20000 (eQ186).1 (eQ186).2.1 h0) = true := by kernel_rfl
end Go.Proofs.YtlimihfdpfgedaaGreatDoor
