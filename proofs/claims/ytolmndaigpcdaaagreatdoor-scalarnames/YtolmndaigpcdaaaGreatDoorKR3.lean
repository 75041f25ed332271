/- ScalarNames: calls, as the abstract machine reckons them, part 3. -/
import Derived.Test.YtolmndaigpcdaaaGreatDoorKV
namespace Go.Proofs.YtolmndaigpcdaaaGreatDoor
open Go.Ax
theorem runK57 : pureOk 1000 (eK57).2.2 (call Tryz.prog (cx [eK22, eK26, eK31, eK32, eK33, eK37, eK38, eK39, eK40, eK41, eK42, eK43, eK44, eK45, eK46, eK47, eK48, eK49, eK50, eK51, eK52, eK53, eK54, eK55, eK56]) 20000 (eK57).1 (eK57).2.1 h0) = true := by kernel_rfl
theorem runK58 : pureOk 1000 (eK58).2.2 (call Tryz.prog (cx [eK23, eK36, eK57]) 20000 (eK58).1 (eK58).2.1 h0) = true := by kernel_rfl
end Go.Proofs.YtolmndaigpcdaaaGreatDoor
