/- ScalarNames: calls, as the abstract machine reckons them, part 9. -/
import Derived.Test.YtolmndaigpcdaaaGreatDoorKV
namespace Go.Proofs.YtolmndaigpcdaaaGreatDoor
open Go.Ax
theorem runK95 : pureOk 1000 (eK95).2.2 (call Tryz.prog (cx [eK3, eK6, eK9, eK12, eK13, eK14, eK15, eK18, eK21, eK22, eK89, eK90, eK91, eK94]) 20000 (eK95).1 (eK95).2.1 h0) = true := by kernel_rfl
theorem runK96 : pureOk 1000 (eK96).2.2 (call Tryz.prog (cx []) 20000 (eK96).1 (eK96).2.1 h0) = true := by kernel_rfl
theorem runK97 : pureOk 1000 (eK97).2.2 (call Tryz.prog (cx [eK25]) 20000 (eK97).1 (eK97).2.1 h0) = true := by kernel_rfl
theorem runK98 : pureOk 1000 (eK98).2.2 (call Tryz.prog (cx [eK97]) 20000 (eK98).1 (eK98).2.1 h0) = true := by kernel_rfl
theorem runK99 : pureOk 1000 (eK99).2.2 (call Tryz.prog (cx [eK97]) 20000 (eK99).1 (eK99).2.1 h0) = true := by kernel_rfl
theorem runK100 : pureOk 1000 (eK100).2.2 (call Tryz.prog (cx [eK98, eK99]) 20000 (eK100).1 (eK100).2.1 h0) = true := by kernel_rfl
theorem runK101 : pureOk 1000 (eK101).2.2 (call Tryz.prog (cx [eK97]) 20000 (eK101).1 (eK101).2.1 h0) = true := by kernel_rfl
theorem runK102 : pureOk 1000 (eK102).2.2 (call Tryz.prog (cx []) 20000 (eK102).1 (eK102).2.1 h0) = true := by kernel_rfl
theorem runK103 : pureOk 1000 (eK103).2.2 (call Tryz.prog (cx []) 20000 (eK103).1 (eK103).2.1 h0) = true := by kernel_rfl
theorem runK104 : pureOk 1000 (eK104).2.2 (call Tryz.prog (cx []) 20000 (eK104).1 (eK104).2.1 h0) = true := by kernel_rfl
theorem runK105 : pureOk 1000 (eK105).2.2 (call Tryz.prog (cx []) 20000 (eK105).1 (eK105).2.1 h0) = true := by kernel_rfl
theorem runK106 : pureOk 1000 (eK106).2.2 (call Tryz.prog (cx [eK33, eK97, eK98, eK100, eK101, eK102, eK103, eK104, eK105]) 20000 (eK106).1 (eK106).2.1 h0) = true := by kernel_rfl
theorem runK107 : pureOk 1000 (eK107).2.2 (call Tryz.prog (cx [eK106]) 20000 (eK107).1 (eK107).2.1 h0) = true := by kernel_rfl
end Go.Proofs.YtolmndaigpcdaaaGreatDoor
