/- ReloadNames: calls, as the abstract machine reckons them, part 7. -/
import Derived.Test.YtmmjfmbpilfehaaGreatDoorRV
namespace Go.Proofs.YtmmjfmbpilfehaaGreatDoor
open Go.Ax
theorem runR92 : pureOk 1000 (eR92).2.2 (call Tryz.prog (cx [eR3, eR4, eR6, eR9, eR10, eR11, eR12, eR15, eR16, eR17, eR18, eR19, eR20, eR21, eR24, eR25, eR26, eR27, eR28, eR29, eR91]) 20000 (eR92).1 (eR92).2.1 h0) = true := by kernel_rfl
theorem runR93 : pureOk 1000 (eR93).2.2 (call Tryz.prog (cx [eR31]) 20000 (eR93).1 (eR93).2.1 h0) = true := by kernel_rfl
theorem runR94 : pureOk 1000 (eR94).2.2 (call Tryz.prog (cx [eR93]) 20000 (eR94).1 (eR94).2.1 h0) = true := by kernel_rfl
theorem runR95 : pureOk 1000 (eR95).2.2 (call Tryz.prog (cx [eR94]) 20000 (eR95).1 (eR95).2.1 h0) = true := by kernel_rfl
theorem runR96 : pureOk 1000 (eR96).2.2 (call Tryz.prog (cx [eR94]) 20000 (eR96).1 (eR96).2.1 h0) = true := by kernel_rfl
theorem runR97 : pureOk 1000 (eR97).2.2 (call Tryz.prog (cx [eR95, eR96]) 20000 (eR97).1 (eR97).2.1 h0) = true := by kernel_rfl
theorem runR98 : pureOk 1000 (eR98).2.2 (call Tryz.prog (cx [eR94]) 20000 (eR98).1 (eR98).2.1 h0) = true := by kernel_rfl
theorem runR99 : pureOk 1000 (eR99).2.2 (call Tryz.prog (cx [eR93]) 20000 (eR99).1 (eR99).2.1 h0) = true := by kernel_rfl
theorem runR100 : pureOk 1000 (eR100).2.2 (call Tryz.prog (cx [eR99]) 20000 (eR100).1 (eR100).2.1 h0) = true := by kernel_rfl
theorem runR101 : pureOk 1000 (eR101).2.2 (call Tryz.prog (cx [eR99]) 20000 (eR101).1 (eR101).2.1 h0) = true := by kernel_rfl
end Go.Proofs.YtmmjfmbpilfehaaGreatDoor
