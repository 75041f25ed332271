/- ResolveNames: calls, as the abstract machine reckons them, part 11. -/
import Derived.Test.YtlimihfdpfgedaaGreatDoorQV
namespace Go.Proofs.YtlimihfdpfgedaaGreatDoor
open Go.Ax
theorem runQ187 : pureOk 1000 (eQ187).2.2 (call Tryz.prog (cx []) 20000 (eQ187).1 (eQ187).2.1 h0) = true := by kernel_rfl
end Go.Proofs.YtlimihfdpfgedaaGreatDoor
