/- ScalarNames: calls, as the abstract machine reckons them, part 26. -/
import Derived.Test.YtolmndaigpcdaaaGreatDoorKV
namespace Go.Proofs.YtolmndaigpcdaaaGreatDoor
open Go.Ax
theorem runK258 : pureOk 1000 (eK258).2.2 (call Tryz.prog (cx []) 20000 (eK258).1 (eK258).2.1 h0) = true := by kernel_rfl
theorem runK259 : pureOk 1000 (eK259).2.2 (call Tryz.prog (cx [eK3, eK6, eK9, eK12, eK13, eK14, eK15, eK22, eK258]) 20000 (eK259).1 (eK259).2.1 h0) = true := by kernel_rfl
theorem runK260 : pureOk 1000 (eK260).2.2 (call Tryz.prog (cx []) 20000 (eK260).1 (eK260).2.1 h0) = true := by kernel_rfl
theorem runK261 : pureOk 1000 (eK261).2.2 (call Tryz.prog (cx [eK25]) 20000 (eK261).1 (eK261).2.1 h0) = true := by kernel_rfl
theorem runK262 : pureOk 1000 (eK262).2.2 (call Tryz.prog (cx [eK261]) 20000 (eK262).1 (eK262).2.1 h0) = true := by kernel_rfl
theorem runK263 : pureOk 1000 (eK263).2.2 (call Tryz.prog (cx [eK261]) 20000 (eK263).1 (eK263).2.1 h0) = true := by kernel_rfl
end Go.Proofs.YtolmndaigpcdaaaGreatDoor
