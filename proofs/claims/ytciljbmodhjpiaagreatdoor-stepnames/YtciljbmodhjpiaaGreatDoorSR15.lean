/- StepNames: calls, as the abstract machine reckons them, part 15. -/
import Derived.Test.YtciljbmodhjpiaaGreatDoorSV
namespace Go.Proofs.YtciljbmodhjpiaaGreatDoor
open Go.Ax
theorem runS83 : pureOk 1000 (eS83).2.2 (call Tryz.prog (cx [eS2, eS72, eS73, eS82]) 20000 (eS83).1 (eS83).2.1 h0) = true := by kernel_rfl
theorem runS84 : pureOk 1000 (eS84).2.2 (call Tryz.prog (cx [eS83]) 20000 (eS84).1 (eS84).2.1 h0) = true := by kernel_rfl
theorem runS85 : pureOk 1000 (eS85).2.2 (call Tryz.prog (cx []) 20000 (eS85).1 (eS85).2.1 h0) = true := by kernel_rfl
end Go.Proofs.YtciljbmodhjpiaaGreatDoor
