/- ScalarNames: calls, as the abstract machine reckons them, part 8. -/
import Derived.Test.YtolmndaigpcdaaaGreatDoorKV
namespace Go.Proofs.YtolmndaigpcdaaaGreatDoor
open Go.Ax
theorem runK89 : pureOk 1000 (eK89).2.2 (call Tryz.prog (cx []) 20000 (eK89).1 (eK89).2.1 h0) = true := by kernel_rfl
theorem runK90 : pureOk 1000 (eK90).2.2 (call Tryz.prog (cx [eK20]) 20000 (eK90).1 (eK90).2.1 h0) = true := by kernel_rfl
theorem runK91 : pureOk 1000 (eK91).2.2 (call Tryz.prog (cx []) 20000 (eK91).1 (eK91).2.1 h0) = true := by kernel_rfl
theorem runK92 : pureOk 1000 (eK92).2.2 (call Tryz.prog (cx []) 20000 (eK92).1 (eK92).2.1 h0) = true := by kernel_rfl
theorem runK93 : pureOk 1000 (eK93).2.2 (call Tryz.prog (cx [eK92]) 20000 (eK93).1 (eK93).2.1 h0) = true := by kernel_rfl
theorem runK94 : pureOk 1000 (eK94).2.2 (call Tryz.prog (cx [eK93]) 20000 (eK94).1 (eK94).2.1 h0) = true := by kernel_rfl
end Go.Proofs.YtolmndaigpcdaaaGreatDoor
