/- ScalarNames: calls, as the abstract machine reckons them, part 17. -/
import Derived.Test.YtolmndaigpcdaaaGreatDoorKV
namespace Go.Proofs.YtolmndaigpcdaaaGreatDoor
open Go.Ax
theorem runK181 : pureOk 1000 (eK181).2.2 (call Tryz.prog (cx [eK37, eK38, eK39, eK40, eK41, eK42, eK43, eK44, eK45, eK46, eK47, eK48, eK49, eK51, eK55, eK56, eK112, eK149, eK163, eK167, eK172, eK176, eK177, eK178, eK179, eK180]) 20000 (eK181).1 (eK181).2.1 h0) = true := by kernel_rfl
theorem runK182 : pureOk 1000 (eK182).2.2 (call Tryz.prog (cx [eK139, eK175, eK181]) 20000 (eK182).1 (eK182).2.1 h0) = true := by kernel_rfl
end Go.Proofs.YtolmndaigpcdaaaGreatDoor
