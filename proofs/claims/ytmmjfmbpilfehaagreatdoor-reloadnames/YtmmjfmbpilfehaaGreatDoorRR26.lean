/- ReloadNames: calls, as the abstract machine reckons them, part 26. -/
import Derived.Test.YtmmjfmbpilfehaaGreatDoorRV
namespace Go.Proofs.YtmmjfmbpilfehaaGreatDoor
open Go.Ax
theorem runR341 : pureOk 1000 (eR341).2.2 (call Tryz.prog (cx [eR11, eR17, eR18, eR25, eR27, eR28, eR38, eR39, eR52, eR163, eR330, eR332, eR334, eR335, eR337, eR339, eR340]) 20000 (eR341).1 (eR341).2.1 h0) = true := by kernel_rfl
theorem runR342 : pureOk 1000 (eR342).2.2 (call Tryz.prog (cx [eR165]) 20000 (eR342).1 (eR342).2.1 h0) = true := by kernel_rfl
theorem runR343 : pureOk 1000 (eR343).2.2 (call Tryz.prog (cx [eR341]) 20000 (eR343).1 (eR343).2.1 h0) = true := by kernel_rfl
theorem runR344 : pureOk 1000 (eR344).2.2 (call Tryz.prog (cx [eR59, eR331, eR336, eR343]) 20000 (eR344).1 (eR344).2.1 h0) = true := by kernel_rfl
theorem runR345 : pureOkN 1000 (eR345).2.2 (callAll Tryz.prog (cx [eR59, eR64, eR168, eR171, eR172, eR173, eR174, eR175, eR176, eR177, eR178, eR179, eR180, eR331, eR336, eR343, eR344]) nkR 20000 (eR345).1 (eR345).2.1) = true := by kernel_rfl
theorem runR346 : pureOk 1000 (eR346).2.2 (call Tryz.prog (cx [eR345]) 20000 (eR346).1 (eR346).2.1 h0) = true := by kernel_rfl
theorem runR347 : pureOk 1000 (eR347).2.2 (call Tryz.prog (cx [eR341, eR342, eR346]) 20000 (eR347).1 (eR347).2.1 h0) = true := by kernel_rfl
end Go.Proofs.YtmmjfmbpilfehaaGreatDoor
