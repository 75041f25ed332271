/- ReloadNames: calls, as the abstract machine reckons them, part 15. -/
import Derived.Test.YtmmjfmbpilfehaaGreatDoorRV
namespace Go.Proofs.YtmmjfmbpilfehaaGreatDoor
open Go.Ax
theorem runR207 : pureOk 1000 (eR207).2.2 (call Tryz.prog (cx [eR203]) 20000 (eR207).1 (eR207).2.1 h0) = true := by kernel_rfl
theorem runR208 : pureOk 1000 (eR208).2.2 (call Tryz.prog (cx [eR203]) 20000 (eR208).1 (eR208).2.1 h0) = true := by kernel_rfl
theorem runR209 : pureOk 1000 (eR209).2.2 (call Tryz.prog (cx [eR203]) 20000 (eR209).1 (eR209).2.1 h0) = true := by kernel_rfl
theorem runR210 : pureOk 1000 (eR210).2.2 (call Tryz.prog (cx [eR203]) 20000 (eR210).1 (eR210).2.1 h0) = true := by kernel_rfl
theorem runR211 : pureOkN 1000 (eR211).2.2 (callAll Tryz.prog (cx [eR59, eR64, eR172, eR173, eR189, eR194, eR200, eR201, eR202, eR204, eR205, eR206, eR207, eR208, eR209, eR210]) nkR 20000 (eR211).1 (eR211).2.1) = true := by kernel_rfl
theorem runR212 : pureOk 1000 (eR212).2.2 (call Tryz.prog (cx [eR211]) 20000 (eR212).1 (eR212).2.1 h0) = true := by kernel_rfl
theorem runR213 : pureOk 1000 (eR213).2.2 (call Tryz.prog (cx [eR164, eR166, eR182, eR183, eR187, eR212]) 20000 (eR213).1 (eR213).2.1 h0) = true := by kernel_rfl
theorem runR214 : pureOk 1000 (eR214).2.2 (call Tryz.prog (cx []) 20000 (eR214).1 (eR214).2.1 h0) = true := by kernel_rfl
theorem runR215 : pureOk 1000 (eR215).2.2 (call Tryz.prog (cx []) 20000 (eR215).1 (eR215).2.1 h0) = true := by kernel_rfl
theorem runR216 : pureOk 1000 (eR216).2.2 (call Tryz.prog (cx []) 20000 (eR216).1 (eR216).2.1 h0) = true := by kernel_rfl
theorem runR217 : pureOk 1000 (eR217).2.2 (call Tryz.prog (cx [eR11, eR17, eR18, eR25, eR38, eR52, eR148, eR186, eR188, eR214, eR215, eR216]) 20000 (eR217).1 (eR217).2.1 h0) = true := by kernel_rfl
end Go.Proofs.YtmmjfmbpilfehaaGreatDoor
