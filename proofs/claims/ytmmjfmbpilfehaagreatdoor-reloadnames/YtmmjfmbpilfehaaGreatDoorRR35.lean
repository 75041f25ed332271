/- ReloadNames: calls, as the abstract machine reckons them, part 35. -/
import Derived.Test.YtmmjfmbpilfehaaGreatDoorRV
namespace Go.Proofs.YtmmjfmbpilfehaaGreatDoor
open Go.Ax
theorem runR402 : pureOk 1000 (eR402).2.2 (call Tryz.prog (cx [eR11, eR17, eR18, eR25, eR38, eR39, eR52, eR110, eR389, eR391, eR393, eR394, eR396, eR398, eR399, eR400, eR401]) 20000 (eR402).1 (eR402).2.1 h0) = true := by kernel_rfl
theorem runR403 : pureOk 1000 (eR403).2.2 (call Tryz.prog (cx [eR165]) 20000 (eR403).1 (eR403).2.1 h0) = true := by kernel_rfl
theorem runR404 : pureOk 1000 (eR404).2.2 (call Tryz.prog (cx [eR402]) 20000 (eR404).1 (eR404).2.1 h0) = true := by kernel_rfl
theorem runR405 : pureOk 1000 (eR405).2.2 (call Tryz.prog (cx [eR59, eR390, eR395, eR404]) 20000 (eR405).1 (eR405).2.1 h0) = true := by kernel_rfl
theorem runR406 : pureOkN 1000 (eR406).2.2 (callAll Tryz.prog (cx [eR59, eR64, eR172, eR173, eR201, eR204, eR205, eR206, eR207, eR208, eR209, eR210, eR390, eR395, eR404, eR405]) nkR 20000 (eR406).1 (eR406).2.1) = true := by kernel_rfl
theorem runR407 : pureOk 1000 (eR407).2.2 (call Tryz.prog (cx [eR406]) 20000 (eR407).1 (eR407).2.1 h0) = true := by kernel_rfl
theorem runR408 : pureOk 1000 (eR408).2.2 (call Tryz.prog (cx [eR402, eR403, eR407]) 20000 (eR408).1 (eR408).2.1 h0) = true := by kernel_rfl
end Go.Proofs.YtmmjfmbpilfehaaGreatDoor
