/- ScalarNames: calls, as the abstract machine reckons them, part 11. -/
import Derived.Test.YtolmndaigpcdaaaGreatDoorKV
namespace Go.Proofs.YtolmndaigpcdaaaGreatDoor
open Go.Ax
theorem runK123 : pureOk 1000 (eK123).2.2 (call Tryz.prog (cx [eK22, eK37, eK38, eK39, eK40, eK41, eK42, eK43, eK44, eK45, eK46, eK47, eK48, eK49, eK51, eK55, eK56, eK103, eK114, eK122]) 20000 (eK123).1 (eK123).2.1 h0) = true := by kernel_rfl
theorem runK124 : pureOk 1000 (eK124).2.2 (call Tryz.prog (cx [eK95, eK121, eK123]) 20000 (eK124).1 (eK124).2.1 h0) = true := by kernel_rfl
end Go.Proofs.YtolmndaigpcdaaaGreatDoor
