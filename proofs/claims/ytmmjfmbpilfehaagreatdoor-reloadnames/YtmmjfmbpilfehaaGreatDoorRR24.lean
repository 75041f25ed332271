/- ReloadNames: calls, as the abstract machine reckons them, part 24. -/
import Derived.Test.YtmmjfmbpilfehaaGreatDoorRV
namespace Go.Proofs.YtmmjfmbpilfehaaGreatDoor
open Go.Ax
theorem runR327 : pureOk 1000 (eR327).2.2 (call Tryz.prog (cx []) 20000 (eR327).1 (eR327).2.1 h0) = true := by kernel_rfl
theorem runR328 : pureOk 1000 (eR328).2.2 (call Tryz.prog (cx [eR2]) 20000 (eR328).1 (eR328).2.1 h0) = true := by kernel_rfl
end Go.Proofs.YtmmjfmbpilfehaaGreatDoor
