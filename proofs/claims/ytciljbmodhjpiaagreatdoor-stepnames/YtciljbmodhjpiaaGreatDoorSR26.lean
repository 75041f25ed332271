/- StepNames: calls, as the abstract machine reckons them, part 26. -/
import Derived.Test.YtciljbmodhjpiaaGreatDoorSV
namespace Go.Proofs.YtciljbmodhjpiaaGreatDoor
open Go.Ax
theorem runS156 : pureOk 1000 (eS156).2.2 (call Tryz.prog (cx [eS155]) 20000 (eS156).1 (eS156).2.1 h0) = true := by kernel_rfl
theorem runS157 : pureOk 1000 (eS157).2.2 (call Tryz.prog (cx [eS2]) 20000 (eS157).1 (eS157).2.1 h0) = true := by kernel_rfl
theorem runS158 : pureOk 1000 (eS158).2.2 (call Tryz.prog (cx [eS157]) 20000 (eS158).1 (eS158).2.1 h0) = true := by kernel_rfl
theorem runS159 : pureOk 1000 (eS159).2.2 (call Tryz.prog (cx [eS157]) 20000 (eS159).1 (eS159).2.1 h0) = true := by kernel_rfl
theorem runS160 : pureOk 1000 (eS160).2.2 (call Tryz.prog (cx [eS158, eS159]) 20000 (eS160).1 (eS160).2.1 h0) = true := by kernel_rfl
theorem runS161 : pureOk 1000 (eS161).2.2 (call Tryz.prog (cx [eS157]) 20000 (eS161).1 (eS161).2.1 h0) = true := by kernel_rfl
theorem runS162 : pureOk 1000 (eS162).2.2 (call Tryz.prog (cx [eS157]) 20000 (eS162).1 (eS162).2.1 h0) = true := by kernel_rfl
theorem runS163 : pureOk 1000 (eS163).2.2 (call Tryz.prog (cx [eS157]) 20000 (eS163).1 (eS163).2.1 h0) = true := by kernel_rfl
theorem runS164 : pureOk 1000 (eS164).2.2 (call Tryz.prog (cx [eS162, eS163]) 20000 (eS164).1 (eS164).2.1 h0) = true := by kernel_rfl
theorem runS165 : pureOk 1000 (eS165).2.2 (call Tryz.prog (cx [eS157]) 20000 (eS165).1 (eS165).2.1 h0) = true := by kernel_rfl
theorem runS166 : pureOk 1000 (eS166).2.2 (call Tryz.prog (cx [eS157, eS158, eS160, eS161, eS162, eS164, eS165]) 20000 (eS166).1 (eS166).2.1 h0) = true := by kernel_rfl
end Go.Proofs.YtciljbmodhjpiaaGreatDoor
