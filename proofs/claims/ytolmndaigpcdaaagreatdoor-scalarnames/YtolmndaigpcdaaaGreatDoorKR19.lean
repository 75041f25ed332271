/- ScalarNames: calls, as the abstract machine reckons them, part 19. -/
import Derived.Test.YtolmndaigpcdaaaGreatDoorKV
namespace Go.Proofs.YtolmndaigpcdaaaGreatDoor
open Go.Ax
theorem runK184 : pureOk 1000 (eK184).2.2 (call Tryz.prog (cx [eK3, eK6, eK9, eK12, eK13, eK14, eK15, eK16, eK18, eK21, eK22, eK90, eK92, eK128, eK132, eK183]) 20000 (eK184).1 (eK184).2.1 h0) = true := by kernel_rfl
theorem runK185 : pureOk 1000 (eK185).2.2 (call Tryz.prog (cx []) 20000 (eK185).1 (eK185).2.1 h0) = true := by kernel_rfl
theorem runK186 : pureOk 1000 (eK186).2.2 (call Tryz.prog (cx [eK25]) 20000 (eK186).1 (eK186).2.1 h0) = true := by kernel_rfl
theorem runK187 : pureOk 1000 (eK187).2.2 (call Tryz.prog (cx [eK186]) 20000 (eK187).1 (eK187).2.1 h0) = true := by kernel_rfl
theorem runK188 : pureOk 1000 (eK188).2.2 (call Tryz.prog (cx [eK186]) 20000 (eK188).1 (eK188).2.1 h0) = true := by kernel_rfl
theorem runK189 : pureOk 1000 (eK189).2.2 (call Tryz.prog (cx [eK187, eK188]) 20000 (eK189).1 (eK189).2.1 h0) = true := by kernel_rfl
theorem runK190 : pureOk 1000 (eK190).2.2 (call Tryz.prog (cx [eK186]) 20000 (eK190).1 (eK190).2.1 h0) = true := by kernel_rfl
theorem runK191 : pureOk 1000 (eK191).2.2 (call Tryz.prog (cx []) 20000 (eK191).1 (eK191).2.1 h0) = true := by kernel_rfl
theorem runK192 : pureOk 1000 (eK192).2.2 (call Tryz.prog (cx []) 20000 (eK192).1 (eK192).2.1 h0) = true := by kernel_rfl
end Go.Proofs.YtolmndaigpcdaaaGreatDoor
