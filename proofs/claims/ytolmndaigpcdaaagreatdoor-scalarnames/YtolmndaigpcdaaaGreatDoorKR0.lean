/- ScalarNames: calls, as the abstract machine reckons them, part 0. -/
import Derived.Test.YtolmndaigpcdaaaGreatDoorKV
namespace Go.Proofs.YtolmndaigpcdaaaGreatDoor
open Go.Ax
theorem runK0 : pureOk 1000 (eK0).2.2 (call Tryz.prog (cx []) 20000 (eK0).1 (eK0).2.1 h0) = true := by kernel_rfl
theorem runK1 : pureOk 1000 (eK1).2.2 (call Tryz.prog (cx []) 20000 (eK1).1 (eK1).2.1 h0) = true := by kernel_rfl
theorem runK2 : pureOk 1000 (eK2).2.2 (call Tryz.prog (cx [eK1]) 20000 (eK2).1 (eK2).2.1 h0) = true := by kernel_rfl
theorem runK3 : pureOk 1000 (eK3).2.2 (call Tryz.prog (cx [eK2]) 20000 (eK3).1 (eK3).2.1 h0) = true := by kernel_rfl
theorem runK4 : pureOk 1000 (eK4).2.2 (call Tryz.prog (cx []) 20000 (eK4).1 (eK4).2.1 h0) = true := by kernel_rfl
theorem runK5 : pureOk 1000 (eK5).2.2 (call Tryz.prog (cx [eK4]) 20000 (eK5).1 (eK5).2.1 h0) = true := by kernel_rfl
theorem runK6 : pureOk 1000 (eK6).2.2 (call Tryz.prog (cx [eK5]) 20000 (eK6).1 (eK6).2.1 h0) = true := by kernel_rfl
theorem runK7 : pureOk 1000 (eK7).2.2 (call Tryz.prog (cx []) 20000 (eK7).1 (eK7).2.1 h0) = true := by kernel_rfl
theorem runK8 : pureOk 1000 (eK8).2.2 (call Tryz.prog (cx [eK7]) 20000 (eK8).1 (eK8).2.1 h0) = true := by kernel_rfl
theorem runK9 : pureOk 1000 (eK9).2.2 (call Tryz.prog (cx [eK8]) 20000 (eK9).1 (eK9).2.1 h0) = true := by kernel_rfl
theorem runK10 : pureOk 1000 (eK10).2.2 (call Tryz.prog (cx []) 20000 (eK10).1 (eK10).2.1 h0) = true := by kernel_rfl
theorem runK11 : pureOk 1000 (eK11).2.2 (call Tryz.prog (cx [eK10]) 20000 (eK11).1 (eK11).2.1 h0) = true := by kernel_rfl
theorem runK12 : pureOk 1000 (eK12).2.2 (call Tryz.prog (cx [eK11]) 20000 (eK12).1 (eK12).2.1 h0) = true := by kernel_rfl
end Go.Proofs.YtolmndaigpcdaaaGreatDoor
