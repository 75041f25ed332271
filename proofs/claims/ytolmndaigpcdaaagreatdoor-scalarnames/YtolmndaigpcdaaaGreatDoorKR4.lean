/- ScalarNames: calls, as the abstract machine reckons them, part 4. -/
import Derived.Test.YtolmndaigpcdaaaGreatDoorKV
namespace Go.Proofs.YtolmndaigpcdaaaGreatDoor
open Go.Ax
theorem runK59 : pureOk 1000 (eK59).2.2 (call Tryz.prog (cx []) 20000 (eK59).1 (eK59).2.1 h0) = true := by kernel_rfl
theorem runK60 : pureOk 1000 (eK60).2.2 (call Tryz.prog (cx [eK3, eK6, eK9, eK12, eK13, eK14, eK15, eK18, eK22, eK59]) 20000 (eK60).1 (eK60).2.1 h0) = true := by kernel_rfl
theorem runK61 : pureOk 1000 (eK61).2.2 (call Tryz.prog (cx []) 20000 (eK61).1 (eK61).2.1 h0) = true := by kernel_rfl
theorem runK62 : pureOk 1000 (eK62).2.2 (call Tryz.prog (cx [eK25]) 20000 (eK62).1 (eK62).2.1 h0) = true := by kernel_rfl
end Go.Proofs.YtolmndaigpcdaaaGreatDoor
