/- ReloadNames: calls, as the abstract machine reckons them, part 6. -/
import Derived.Test.YtmmjfmbpilfehaaGreatDoorRV
namespace Go.Proofs.YtmmjfmbpilfehaaGreatDoor
open Go.Ax
theorem runR91 : pureOk 1000 (eR91).2.2 (call Tryz.prog (cx []) 20000 (eR91).1 (eR91).2.1 h0) = true := by kernel_rfl
end Go.Proofs.YtmmjfmbpilfehaaGreatDoor
