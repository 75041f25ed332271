/- ScalarNames: calls, as the abstract machine reckons them, part 25. -/
import Derived.Test.YtolmndaigpcdaaaGreatDoorKV
namespace Go.Proofs.YtolmndaigpcdaaaGreatDoor
open Go.Ax
theorem runK252 : pureOk 1000 (eK252).2.2 (call Tryz.prog (cx [eK248]) 20000 (eK252).1 (eK252).2.1 h0) = true := by kernel_rfl
theorem runK253 : pureOk 1000 (eK253).2.2 (call Tryz.prog (cx [eK32, eK248, eK249, eK251, eK252]) 20000 (eK253).1 (eK253).2.1 h0) = true := by kernel_rfl
theorem runK254 : pureOk 1000 (eK254).2.2 (call Tryz.prog (cx [eK253]) 20000 (eK254).1 (eK254).2.1 h0) = true := by kernel_rfl
theorem runK255 : pureOk 1000 (eK255).2.2 (call Tryz.prog (cx [eK22, eK31, eK32, eK33, eK235, eK242, eK244, eK245, eK247, eK254]) 20000 (eK255).1 (eK255).2.1 h0) = true := by kernel_rfl
theorem runK256 : pureOk 1000 (eK256).2.2 (call Tryz.prog (cx [eK32, eK37, eK38, eK39, eK40, eK41, eK42, eK43, eK44, eK45, eK46, eK47, eK48, eK49, eK52, eK56, eK248]) 20000 (eK256).1 (eK256).2.1 h0) = true := by kernel_rfl
theorem runK257 : pureOk 1000 (eK257).2.2 (call Tryz.prog (cx [eK234, eK255, eK256]) 20000 (eK257).1 (eK257).2.1 h0) = true := by kernel_rfl
end Go.Proofs.YtolmndaigpcdaaaGreatDoor
