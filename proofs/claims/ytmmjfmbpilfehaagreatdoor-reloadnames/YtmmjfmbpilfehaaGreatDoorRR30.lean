/- ReloadNames: calls, as the abstract machine reckons them, part 30. -/
import Derived.Test.YtmmjfmbpilfehaaGreatDoorRV
namespace Go.Proofs.YtmmjfmbpilfehaaGreatDoor
open Go.Ax
theorem runR376 : pureOk 1000 (eR376).2.2 (call Tryz.prog (cx [eR372]) 20000 (eR376).1 (eR376).2.1 h0) = true := by kernel_rfl
theorem runR377 : pureOk 1000 (eR377).2.2 (call Tryz.prog (cx [eR11, eR17, eR18, eR19, eR25, eR27, eR38, eR39, eR45, eR52, eR109, eR110, eR361, eR363, eR365, eR366, eR368, eR370, eR371, eR373, eR375, eR376]) 20000 (eR377).1 (eR377).2.1 h0) = true := by kernel_rfl
theorem runR378 : pureOk 1000 (eR378).2.2 (call Tryz.prog (cx [eR377]) 20000 (eR378).1 (eR378).2.1 h0) = true := by kernel_rfl
theorem runR379 : pureOk 1000 (eR379).2.2 (call Tryz.prog (cx [eR59, eR362, eR367, eR372, eR378]) 20000 (eR379).1 (eR379).2.1 h0) = true := by kernel_rfl
theorem runR380 : pureOk 1000 (eR380).2.2 (call Tryz.prog (cx []) 20000 (eR380).1 (eR380).2.1 h0) = true := by kernel_rfl
theorem runR381 : pureOk 1000 (eR381).2.2 (call Tryz.prog (cx []) 20000 (eR381).1 (eR381).2.1 h0) = true := by kernel_rfl
end Go.Proofs.YtmmjfmbpilfehaaGreatDoor
