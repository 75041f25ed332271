/- ScalarNames: calls, as the abstract machine reckons them, part 6. -/
import Derived.Test.YtolmndaigpcdaaaGreatDoorKV
namespace Go.Proofs.YtolmndaigpcdaaaGreatDoor
open Go.Ax
theorem runK74 : pureOk 1000 (eK74).2.2 (call Tryz.prog (cx []) 20000 (eK74).1 (eK74).2.1 h0) = true := by kernel_rfl
theorem runK75 : pureOk 1000 (eK75).2.2 (call Tryz.prog (cx []) 20000 (eK75).1 (eK75).2.1 h0) = true := by kernel_rfl
theorem runK76 : pureOk 1000 (eK76).2.2 (call Tryz.prog (cx [eK3, eK6, eK9, eK12, eK13, eK14, eK15, eK22, eK74, eK75]) 20000 (eK76).1 (eK76).2.1 h0) = true := by kernel_rfl
theorem runK77 : pureOk 1000 (eK77).2.2 (call Tryz.prog (cx []) 20000 (eK77).1 (eK77).2.1 h0) = true := by kernel_rfl
end Go.Proofs.YtolmndaigpcdaaaGreatDoor
