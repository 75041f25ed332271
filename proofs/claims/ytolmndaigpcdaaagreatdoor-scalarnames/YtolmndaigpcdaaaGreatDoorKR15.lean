/- ScalarNames: calls, as the abstract machine reckons them, part 15. -/
import Derived.Test.YtolmndaigpcdaaaGreatDoorKV
namespace Go.Proofs.YtolmndaigpcdaaaGreatDoor
open Go.Ax
theorem runK158 : pureOk 1000 (eK158).2.2 (call Tryz.prog (cx [eK14, eK16, eK18, eK22, eK127, eK138, eK141]) 20000 (eK158).1 (eK158).2.1 h0) = true := by kernel_rfl
theorem runK159 : pureOk 1000 (eK159).2.2 (call Tryz.prog (cx [eK25]) 20000 (eK159).1 (eK159).2.1 h0) = true := by kernel_rfl
theorem runK160 : pureOk 1000 (eK160).2.2 (call Tryz.prog (cx [eK159]) 20000 (eK160).1 (eK160).2.1 h0) = true := by kernel_rfl
theorem runK161 : pureOk 1000 (eK161).2.2 (call Tryz.prog (cx [eK160]) 20000 (eK161).1 (eK161).2.1 h0) = true := by kernel_rfl
theorem runK162 : pureOk 1000 (eK162).2.2 (call Tryz.prog (cx [eK25]) 20000 (eK162).1 (eK162).2.1 h0) = true := by kernel_rfl
theorem runK163 : pureOk 1000 (eK163).2.2 (call Tryz.prog (cx []) 20000 (eK163).1 (eK163).2.1 h0) = true := by kernel_rfl
theorem runK164 : pureOk 1000 (eK164).2.2 (call Tryz.prog (cx []) 20000 (eK164).1 (eK164).2.1 h0) = true := by kernel_rfl
theorem runK165 : pureOk 1000 (eK165).2.2 (call Tryz.prog (cx []) 20000 (eK165).1 (eK165).2.1 h0) = true := by kernel_rfl
theorem runK166 : pureOk 1000 (eK166).2.2 (call Tryz.prog (cx [eK16, eK22, eK138, eK149, eK152, eK162, eK163, eK164, eK165]) 20000 (eK166).1 (eK166).2.1 h0) = true := by kernel_rfl
end Go.Proofs.YtolmndaigpcdaaaGreatDoor
