/- ScalarNames: calls, as the abstract machine reckons them, part 28. -/
import Derived.Test.YtolmndaigpcdaaaGreatDoorKV
namespace Go.Proofs.YtolmndaigpcdaaaGreatDoor
open Go.Ax
theorem runK281 : pureOk 1000 (eK281).2.2 (call Tryz.prog (cx [eK16, eK37, eK38, eK39, eK40, eK41, eK42, eK43, eK44, eK45, eK46, eK47, eK48, eK49, eK56, eK272, eK280]) 20000 (eK281).1 (eK281).2.1 h0) = true := by kernel_rfl
theorem runK282 : pureOk 1000 (eK282).2.2 (call Tryz.prog (cx [eK259, eK279, eK281]) 20000 (eK282).1 (eK282).2.1 h0) = true := by kernel_rfl
theorem runK283 : pureOk 1000 (eK283).2.2 (call Tryz.prog (cx [eK257, eK282]) 20000 (eK283).1 (eK283).2.1 h0) = true := by kernel_rfl
end Go.Proofs.YtolmndaigpcdaaaGreatDoor
