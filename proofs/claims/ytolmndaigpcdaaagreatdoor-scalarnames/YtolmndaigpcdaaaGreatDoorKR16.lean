/- ScalarNames: calls, as the abstract machine reckons them, part 16. -/
import Derived.Test.YtolmndaigpcdaaaGreatDoorKV
namespace Go.Proofs.YtolmndaigpcdaaaGreatDoor
open Go.Ax
theorem runK167 : pureOk 1000 (eK167).2.2 (call Tryz.prog (cx [eK25]) 20000 (eK167).1 (eK167).2.1 h0) = true := by kernel_rfl
theorem runK168 : pureOk 1000 (eK168).2.2 (call Tryz.prog (cx [eK167]) 20000 (eK168).1 (eK168).2.1 h0) = true := by kernel_rfl
theorem runK169 : pureOk 1000 (eK169).2.2 (call Tryz.prog (cx [eK167]) 20000 (eK169).1 (eK169).2.1 h0) = true := by kernel_rfl
theorem runK170 : pureOk 1000 (eK170).2.2 (call Tryz.prog (cx [eK168, eK169]) 20000 (eK170).1 (eK170).2.1 h0) = true := by kernel_rfl
theorem runK171 : pureOk 1000 (eK171).2.2 (call Tryz.prog (cx [eK167]) 20000 (eK171).1 (eK171).2.1 h0) = true := by kernel_rfl
theorem runK172 : pureOk 1000 (eK172).2.2 (call Tryz.prog (cx []) 20000 (eK172).1 (eK172).2.1 h0) = true := by kernel_rfl
theorem runK173 : pureOk 1000 (eK173).2.2 (call Tryz.prog (cx [eK112, eK149, eK163, eK167, eK168, eK170, eK171, eK172]) 20000 (eK173).1 (eK173).2.1 h0) = true := by kernel_rfl
theorem runK174 : pureOk 1000 (eK174).2.2 (call Tryz.prog (cx [eK173]) 20000 (eK174).1 (eK174).2.1 h0) = true := by kernel_rfl
theorem runK175 : pureOk 1000 (eK175).2.2 (call Tryz.prog (cx [eK25, eK112, eK140, eK146, eK147, eK148, eK149, eK150, eK151, eK152, eK153, eK155, eK157, eK158, eK161, eK166, eK174]) 20000 (eK175).1 (eK175).2.1 h0) = true := by kernel_rfl
theorem runK176 : pureOk 1000 (eK176).2.2 (call Tryz.prog (cx []) 20000 (eK176).1 (eK176).2.1 h0) = true := by kernel_rfl
theorem runK177 : pureOk 1000 (eK177).2.2 (call Tryz.prog (cx []) 20000 (eK177).1 (eK177).2.1 h0) = true := by kernel_rfl
theorem runK178 : pureOk 1000 (eK178).2.2 (call Tryz.prog (cx []) 20000 (eK178).1 (eK178).2.1 h0) = true := by kernel_rfl
theorem runK179 : pureOk 1000 (eK179).2.2 (call Tryz.prog (cx []) 20000 (eK179).1 (eK179).2.1 h0) = true := by kernel_rfl
theorem runK180 : pureOk 1000 (eK180).2.2 (call Tryz.prog (cx []) 20000 (eK180).1 (eK180).2.1 h0) = true := by kernel_rfl
end Go.Proofs.YtolmndaigpcdaaaGreatDoor
