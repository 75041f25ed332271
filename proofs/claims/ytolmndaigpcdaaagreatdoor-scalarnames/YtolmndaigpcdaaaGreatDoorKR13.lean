/- ScalarNames: calls, as the abstract machine reckons them, part 13. -/
import Derived.Test.YtolmndaigpcdaaaGreatDoorKV
namespace Go.Proofs.YtolmndaigpcdaaaGreatDoor
open Go.Ax
theorem runK126 : pureOk 1000 (eK126).2.2 (call Tryz.prog (cx [eK93]) 20000 (eK126).1 (eK126).2.1 h0) = true := by kernel_rfl
theorem runK127 : pureOk 1000 (eK127).2.2 (call Tryz.prog (cx []) 20000 (eK127).1 (eK127).2.1 h0) = true := by kernel_rfl
theorem runK128 : pureOk 1000 (eK128).2.2 (call Tryz.prog (cx [eK8]) 20000 (eK128).1 (eK128).2.1 h0) = true := by kernel_rfl
theorem runK129 : pureOk 1000 (eK129).2.2 (call Tryz.prog (cx [eK11]) 20000 (eK129).1 (eK129).2.1 h0) = true := by kernel_rfl
theorem runK130 : pureOk 1000 (eK130).2.2 (call Tryz.prog (cx []) 20000 (eK130).1 (eK130).2.1 h0) = true := by kernel_rfl
theorem runK131 : pureOk 1000 (eK131).2.2 (call Tryz.prog (cx [eK130]) 20000 (eK131).1 (eK131).2.1 h0) = true := by kernel_rfl
theorem runK132 : pureOk 1000 (eK132).2.2 (call Tryz.prog (cx [eK131]) 20000 (eK132).1 (eK132).2.1 h0) = true := by kernel_rfl
theorem runK133 : pureOk 1000 (eK133).2.2 (call Tryz.prog (cx [eK17]) 20000 (eK133).1 (eK133).2.1 h0) = true := by kernel_rfl
theorem runK134 : pureOk 1000 (eK134).2.2 (call Tryz.prog (cx [eK133]) 20000 (eK134).1 (eK134).2.1 h0) = true := by kernel_rfl
theorem runK135 : pureOk 1000 (eK135).2.2 (call Tryz.prog (cx []) 20000 (eK135).1 (eK135).2.1 h0) = true := by kernel_rfl
theorem runK136 : pureOk 1000 (eK136).2.2 (call Tryz.prog (cx [eK135]) 20000 (eK136).1 (eK136).2.1 h0) = true := by kernel_rfl
theorem runK137 : pureOk 1000 (eK137).2.2 (call Tryz.prog (cx [eK136]) 20000 (eK137).1 (eK137).2.1 h0) = true := by kernel_rfl
theorem runK138 : pureOk 1000 (eK138).2.2 (call Tryz.prog (cx []) 20000 (eK138).1 (eK138).2.1 h0) = true := by kernel_rfl
theorem runK139 : pureOk 1000 (eK139).2.2 (call Tryz.prog (cx [eK2, eK3, eK5, eK6, eK9, eK10, eK12, eK13, eK14, eK15, eK16, eK18, eK22, eK90, eK94, eK125, eK126, eK127, eK128, eK129, eK132, eK134, eK137, eK138]) 20000 (eK139).1 (eK139).2.1 h0) = true := by kernel_rfl
theorem runK140 : pureOk 1000 (eK140).2.2 (call Tryz.prog (cx []) 20000 (eK140).1 (eK140).2.1 h0) = true := by kernel_rfl
end Go.Proofs.YtolmndaigpcdaaaGreatDoor
