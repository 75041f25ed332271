/- ScalarNames: calls, as the abstract machine reckons them, part 22. -/
import Derived.Test.YtolmndaigpcdaaaGreatDoorKV
namespace Go.Proofs.YtolmndaigpcdaaaGreatDoor
open Go.Ax
theorem runK220 : pureOk 1000 (eK220).2.2 (call Tryz.prog (cx [eK22, eK31, eK33, eK102, eK104, eK112, eK185, eK191, eK192, eK194, eK196, eK197, eK200, eK207, eK209, eK210, eK212, eK219]) 20000 (eK220).1 (eK220).2.1 h0) = true := by kernel_rfl
theorem runK221 : pureOk 1000 (eK221).2.2 (call Tryz.prog (cx []) 20000 (eK221).1 (eK221).2.1 h0) = true := by kernel_rfl
theorem runK222 : pureOk 1000 (eK222).2.2 (call Tryz.prog (cx [eK37, eK38, eK39, eK40, eK41, eK42, eK43, eK44, eK45, eK46, eK47, eK48, eK49, eK56, eK191, eK213, eK221]) 20000 (eK222).1 (eK222).2.1 h0) = true := by kernel_rfl
theorem runK223 : pureOk 1000 (eK223).2.2 (call Tryz.prog (cx [eK184, eK220, eK222]) 20000 (eK223).1 (eK223).2.1 h0) = true := by kernel_rfl
theorem runK224 : pureOk 1000 (eK224).2.2 (call Tryz.prog (cx [eK22, eK31, eK33, eK68, eK70]) 20000 (eK224).1 (eK224).2.1 h0) = true := by kernel_rfl
theorem runK225 : pureOk 1000 (eK225).2.2 (call Tryz.prog (cx [eK22, eK31, eK33, eK68, eK70]) 20000 (eK225).1 (eK225).2.1 h0) = true := by kernel_rfl
theorem runK226 : pureOk 1000 (eK226).2.2 (call Tryz.prog (cx [eK68]) 20000 (eK226).1 (eK226).2.1 h0) = true := by kernel_rfl
theorem runK227 : pureOk 1000 (eK227).2.2 (call Tryz.prog (cx []) 20000 (eK227).1 (eK227).2.1 h0) = true := by kernel_rfl
theorem runK228 : pureOk 1000 (eK228).2.2 (call Tryz.prog (cx []) 20000 (eK228).1 (eK228).2.1 h0) = true := by kernel_rfl
theorem runK229 : pureOk 1000 (eK229).2.2 (call Tryz.prog (cx [eK228]) 20000 (eK229).1 (eK229).2.1 h0) = true := by kernel_rfl
theorem runK230 : pureOk 1000 (eK230).2.2 (call Tryz.prog (cx [eK229]) 20000 (eK230).1 (eK230).2.1 h0) = true := by kernel_rfl
theorem runK231 : pureOk 1000 (eK231).2.2 (call Tryz.prog (cx [eK230]) 20000 (eK231).1 (eK231).2.1 h0) = true := by kernel_rfl
theorem runK232 : pureOk 1000 (eK232).2.2 (call Tryz.prog (cx [eK227, eK231]) 20000 (eK232).1 (eK232).2.1 h0) = true := by kernel_rfl
end Go.Proofs.YtolmndaigpcdaaaGreatDoor
