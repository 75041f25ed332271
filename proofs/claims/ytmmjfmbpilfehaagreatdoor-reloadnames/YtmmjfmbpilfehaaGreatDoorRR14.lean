/- ReloadNames: calls, as the abstract machine reckons them, part 14. -/
import Derived.Test.YtmmjfmbpilfehaaGreatDoorRV
namespace Go.Proofs.YtmmjfmbpilfehaaGreatDoor
open Go.Ax
theorem runR185 : pureOk 1000 (eR185).2.2 (call Tryz.prog (cx [eR184]) 20000 (eR185).1 (eR185).2.1 h0) = true := by kernel_rfl
theorem runR186 : pureOk 1000 (eR186).2.2 (call Tryz.prog (cx []) 20000 (eR186).1 (eR186).2.1 h0) = true := by kernel_rfl
theorem runR187 : pureOk 1000 (eR187).2.2 (call Tryz.prog (cx [eR18, eR26, eR52, eR149, eR163, eR165, eR185, eR186]) 20000 (eR187).1 (eR187).2.1 h0) = true := by kernel_rfl
theorem runR188 : pureOk 1000 (eR188).2.2 (call Tryz.prog (cx [eR31]) 20000 (eR188).1 (eR188).2.1 h0) = true := by kernel_rfl
theorem runR189 : pureOk 1000 (eR189).2.2 (call Tryz.prog (cx [eR188]) 20000 (eR189).1 (eR189).2.1 h0) = true := by kernel_rfl
theorem runR190 : pureOk 1000 (eR190).2.2 (call Tryz.prog (cx [eR189]) 20000 (eR190).1 (eR190).2.1 h0) = true := by kernel_rfl
theorem runR191 : pureOk 1000 (eR191).2.2 (call Tryz.prog (cx [eR189]) 20000 (eR191).1 (eR191).2.1 h0) = true := by kernel_rfl
theorem runR192 : pureOk 1000 (eR192).2.2 (call Tryz.prog (cx [eR190, eR191]) 20000 (eR192).1 (eR192).2.1 h0) = true := by kernel_rfl
theorem runR193 : pureOk 1000 (eR193).2.2 (call Tryz.prog (cx [eR189]) 20000 (eR193).1 (eR193).2.1 h0) = true := by kernel_rfl
theorem runR194 : pureOk 1000 (eR194).2.2 (call Tryz.prog (cx [eR188]) 20000 (eR194).1 (eR194).2.1 h0) = true := by kernel_rfl
theorem runR195 : pureOk 1000 (eR195).2.2 (call Tryz.prog (cx [eR194]) 20000 (eR195).1 (eR195).2.1 h0) = true := by kernel_rfl
theorem runR196 : pureOk 1000 (eR196).2.2 (call Tryz.prog (cx [eR194]) 20000 (eR196).1 (eR196).2.1 h0) = true := by kernel_rfl
theorem runR197 : pureOk 1000 (eR197).2.2 (call Tryz.prog (cx [eR195, eR196]) 20000 (eR197).1 (eR197).2.1 h0) = true := by kernel_rfl
theorem runR198 : pureOk 1000 (eR198).2.2 (call Tryz.prog (cx [eR194]) 20000 (eR198).1 (eR198).2.1 h0) = true := by kernel_rfl
theorem runR199 : pureOk 1000 (eR199).2.2 (call Tryz.prog (cx [eR11, eR17, eR18, eR25, eR38, eR39, eR52, eR110, eR148, eR186, eR188, eR190, eR192, eR193, eR195, eR197, eR198]) 20000 (eR199).1 (eR199).2.1 h0) = true := by kernel_rfl
theorem runR200 : pureOk 1000 (eR200).2.2 (call Tryz.prog (cx [eR199]) 20000 (eR200).1 (eR200).2.1 h0) = true := by kernel_rfl
theorem runR201 : pureOk 1000 (eR201).2.2 (call Tryz.prog (cx []) 20000 (eR201).1 (eR201).2.1 h0) = true := by kernel_rfl
theorem runR202 : pureOk 1000 (eR202).2.2 (call Tryz.prog (cx [eR59, eR189, eR194, eR200]) 20000 (eR202).1 (eR202).2.1 h0) = true := by kernel_rfl
theorem runR203 : pureOk 1000 (eR203).2.2 (call Tryz.prog (cx []) 20000 (eR203).1 (eR203).2.1 h0) = true := by kernel_rfl
theorem runR204 : pureOk 1000 (eR204).2.2 (call Tryz.prog (cx [eR203]) 20000 (eR204).1 (eR204).2.1 h0) = true := by kernel_rfl
theorem runR205 : pureOk 1000 (eR205).2.2 (call Tryz.prog (cx [eR203]) 20000 (eR205).1 (eR205).2.1 h0) = true := by kernel_rfl
theorem runR206 : pureOk 1000 (eR206).2.2 (call Tryz.prog (cx [eR203]) 20000 (eR206).1 (eR206).2.1 h0) = true := by kernel_rfl
end Go.Proofs.YtmmjfmbpilfehaaGreatDoor
