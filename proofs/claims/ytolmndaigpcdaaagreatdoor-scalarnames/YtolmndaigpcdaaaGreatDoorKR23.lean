/- ScalarNames: calls, as the abstract machine reckons them, part 23. -/
import Derived.Test.YtolmndaigpcdaaaGreatDoorKV
namespace Go.Proofs.YtolmndaigpcdaaaGreatDoor
open Go.Ax
theorem runK233 : pureOk 1000 (eK233).2.2 (call Tryz.prog (cx []) 20000 (eK233).1 (eK233).2.1 h0) = true := by kernel_rfl
theorem runK234 : pureOk 1000 (eK234).2.2 (call Tryz.prog (cx [eK3, eK6, eK9, eK12, eK13, eK14, eK15, eK16, eK17, eK18, eK22, eK94, eK233]) 20000 (eK234).1 (eK234).2.1 h0) = true := by kernel_rfl
end Go.Proofs.YtolmndaigpcdaaaGreatDoor
