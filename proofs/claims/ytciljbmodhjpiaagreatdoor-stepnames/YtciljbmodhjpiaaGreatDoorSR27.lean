/- StepNames: calls, as the abstract machine reckons them, part 27. -/
import Derived.Test.YtciljbmodhjpiaaGreatDoorSV
namespace Go.Proofs.YtciljbmodhjpiaaGreatDoor
open Go.Ax
theorem runS167 : pureOk 1000 (eS167).2.2 (call Tryz.prog (cx [eS156, eS157, eS166]) 20000 (eS167).1 (eS167).2.1 h0) = true := by kernel_rfl
theorem runS168 : pureOk 1000 (eS168).2.2 (call Tryz.prog (cx []) 20000 (eS168).1 (eS168).2.1 h0) = true := by kernel_rfl
theorem runS169 : pureOk 1000 (eS169).2.2 (call Tryz.prog (cx []) 20000 (eS169).1 (eS169).2.1 h0) = true := by kernel_rfl
theorem runS170 : pureOk 1000 (eS170).2.2 (call Tryz.prog (cx [eS169]) 20000 (eS170).1 (eS170).2.1 h0) = true := by kernel_rfl
theorem runS171 : pureOk 1000 (eS171).2.2 (call Tryz.prog (cx [eS170]) 20000 (eS171).1 (eS171).2.1 h0) = true := by kernel_rfl
theorem runS172 : pureOk 1000 (eS172).2.2 (call Tryz.prog (cx [eS171]) 20000 (eS172).1 (eS172).2.1 h0) = true := by kernel_rfl
theorem runS173 : pureOk 1000 (eS173).2.2 (call Tryz.prog (cx []) 20000 (eS173).1 (eS173).2.1 h0) = true := by kernel_rfl
end Go.Proofs.YtciljbmodhjpiaaGreatDoor
