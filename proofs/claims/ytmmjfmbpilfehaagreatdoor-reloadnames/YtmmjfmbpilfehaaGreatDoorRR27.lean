/- ReloadNames: calls, as the abstract machine reckons them, part 27. -/
import Derived.Test.YtmmjfmbpilfehaaGreatDoorRV
namespace Go.Proofs.YtmmjfmbpilfehaaGreatDoor
open Go.Ax
theorem runR348 : pureOk 1000 (eR348).2.2 (call Tryz.prog (cx [eR11, eR17, eR18, eR25, eR27, eR28, eR38, eR52, eR214, eR215, eR216, eR324, eR330]) 20000 (eR348).1 (eR348).2.1 h0) = true := by kernel_rfl
theorem runR349 : pureOk 1000 (eR349).2.2 (call Tryz.prog (cx [eR165]) 20000 (eR349).1 (eR349).2.1 h0) = true := by kernel_rfl
theorem runR350 : pureOk 1000 (eR350).2.2 (call Tryz.prog (cx [eR81, eR82, eR84]) 20000 (eR350).1 (eR350).2.1 h0) = true := by kernel_rfl
theorem runR351 : pureOk 1000 (eR351).2.2 (call Tryz.prog (cx [eR55, eR349, eR350]) 20000 (eR351).1 (eR351).2.1 h0) = true := by kernel_rfl
theorem runR352 : pureOk 1000 (eR352).2.2 (call Tryz.prog (cx []) 20000 (eR352).1 (eR352).2.1 h0) = true := by kernel_rfl
theorem runR353 : pureOk 1000 (eR353).2.2 (call Tryz.prog (cx []) 20000 (eR353).1 (eR353).2.1 h0) = true := by kernel_rfl
end Go.Proofs.YtmmjfmbpilfehaaGreatDoor
