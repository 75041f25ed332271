/- ReloadNames: calls, as the abstract machine reckons them, part 8. -/
import Derived.Test.YtmmjfmbpilfehaaGreatDoorRV
namespace Go.Proofs.YtmmjfmbpilfehaaGreatDoor
open Go.Ax
theorem runR102 : pureOk 1000 (eR102).2.2 (call Tryz.prog (cx [eR100, eR101]) 20000 (eR102).1 (eR102).2.1 h0) = true := by kernel_rfl
theorem runR103 : pureOk 1000 (eR103).2.2 (call Tryz.prog (cx [eR99]) 20000 (eR103).1 (eR103).2.1 h0) = true := by kernel_rfl
theorem runR104 : pureOk 1000 (eR104).2.2 (call Tryz.prog (cx [eR93]) 20000 (eR104).1 (eR104).2.1 h0) = true := by kernel_rfl
theorem runR105 : pureOk 1000 (eR105).2.2 (call Tryz.prog (cx [eR104]) 20000 (eR105).1 (eR105).2.1 h0) = true := by kernel_rfl
theorem runR106 : pureOk 1000 (eR106).2.2 (call Tryz.prog (cx [eR104]) 20000 (eR106).1 (eR106).2.1 h0) = true := by kernel_rfl
theorem runR107 : pureOk 1000 (eR107).2.2 (call Tryz.prog (cx [eR105, eR106]) 20000 (eR107).1 (eR107).2.1 h0) = true := by kernel_rfl
theorem runR108 : pureOk 1000 (eR108).2.2 (call Tryz.prog (cx [eR104]) 20000 (eR108).1 (eR108).2.1 h0) = true := by kernel_rfl
theorem runR109 : pureOk 1000 (eR109).2.2 (call Tryz.prog (cx []) 20000 (eR109).1 (eR109).2.1 h0) = true := by kernel_rfl
theorem runR110 : pureOk 1000 (eR110).2.2 (call Tryz.prog (cx []) 20000 (eR110).1 (eR110).2.1 h0) = true := by kernel_rfl
theorem runR111 : pureOk 1000 (eR111).2.2 (call Tryz.prog (cx [eR11, eR17, eR18, eR19, eR25, eR27, eR38, eR39, eR45, eR46, eR52, eR93, eR95, eR97, eR98, eR100, eR102, eR103, eR105, eR107, eR108, eR109, eR110]) 20000 (eR111).1 (eR111).2.1 h0) = true := by kernel_rfl
theorem runR112 : pureOk 1000 (eR112).2.2 (call Tryz.prog (cx [eR111]) 20000 (eR112).1 (eR112).2.1 h0) = true := by kernel_rfl
theorem runR113 : pureOk 1000 (eR113).2.2 (call Tryz.prog (cx []) 20000 (eR113).1 (eR113).2.1 h0) = true := by kernel_rfl
theorem runR114 : pureOk 1000 (eR114).2.2 (call Tryz.prog (cx [eR59, eR94, eR99, eR104, eR112]) 20000 (eR114).1 (eR114).2.1 h0) = true := by kernel_rfl
theorem runR115 : pureOk 1000 (eR115).2.2 (call Tryz.prog (cx []) 20000 (eR115).1 (eR115).2.1 h0) = true := by kernel_rfl
theorem runR116 : pureOk 1000 (eR116).2.2 (call Tryz.prog (cx [eR115]) 20000 (eR116).1 (eR116).2.1 h0) = true := by kernel_rfl
theorem runR117 : pureOk 1000 (eR117).2.2 (call Tryz.prog (cx [eR115]) 20000 (eR117).1 (eR117).2.1 h0) = true := by kernel_rfl
theorem runR118 : pureOk 1000 (eR118).2.2 (call Tryz.prog (cx []) 20000 (eR118).1 (eR118).2.1 h0) = true := by kernel_rfl
theorem runR119 : pureOk 1000 (eR119).2.2 (call Tryz.prog (cx []) 20000 (eR119).1 (eR119).2.1 h0) = true := by kernel_rfl
theorem runR120 : pureOk 1000 (eR120).2.2 (call Tryz.prog (cx [eR115]) 20000 (eR120).1 (eR120).2.1 h0) = true := by kernel_rfl
theorem runR121 : pureOk 1000 (eR121).2.2 (call Tryz.prog (cx [eR115]) 20000 (eR121).1 (eR121).2.1 h0) = true := by kernel_rfl
end Go.Proofs.YtmmjfmbpilfehaaGreatDoor
