/- ReloadNames: calls, as the abstract machine reckons them, part 5. -/
import Derived.Test.YtmmjfmbpilfehaaGreatDoorRV
namespace Go.Proofs.YtmmjfmbpilfehaaGreatDoor
open Go.Ax
theorem runR85 : pureOk 1000 (eR85).2.2 (call Tryz.prog (cx [eR40, eR55, eR81, eR82, eR84]) 20000 (eR85).1 (eR85).2.1 h0) = true := by kernel_rfl
theorem runR86 : pureOk 1000 (eR86).2.2 (call Tryz.prog (cx [eR32]) 20000 (eR86).1 (eR86).2.1 h0) = true := by kernel_rfl
theorem runR87 : pureOk 1000 (eR87).2.2 (call Tryz.prog (cx [eR40, eR55, eR81, eR82, eR84, eR86]) 20000 (eR87).1 (eR87).2.1 h0) = true := by kernel_rfl
theorem runR88 : pureOk 1000 (eR88).2.2 (call Tryz.prog (cx [eR32]) 20000 (eR88).1 (eR88).2.1 h0) = true := by kernel_rfl
theorem runR89 : pureOk 1000 (eR89).2.2 (call Tryz.prog (cx [eR40, eR55, eR88]) 20000 (eR89).1 (eR89).2.1 h0) = true := by kernel_rfl
theorem runR90 : pureOk 1000 (eR90).2.2 (call Tryz.prog (cx [eR40, eR55]) 20000 (eR90).1 (eR90).2.1 h0) = true := by kernel_rfl
end Go.Proofs.YtmmjfmbpilfehaaGreatDoor
