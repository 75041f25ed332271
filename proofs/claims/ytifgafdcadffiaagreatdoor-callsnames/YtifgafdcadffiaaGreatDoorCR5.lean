/- CallsNames: calls, as the abstract machine reckons them, part 5. -/
import Derived.Test.YtifgafdcadffiaaGreatDoorCV
namespace Go.Proofs.YtifgafdcadffiaaGreatDoor
open Go.Ax
theorem runC89 : pureOk 1000 (eC89).2.2 (call Tryz.prog (cx [eC35, eC88]) 20000 (eC89).1 (eC89).2.1 h0) = true := by kernel_rfl
theorem runC90 : pureOk 1000 (eC90).2.2 (call Tryz.prog (cx []) 20000 (eC90).1 (eC90).2.1 h0) = true := by kernel_rfl
theorem runC91 : pureOk 1000 (eC91).2.2 (call Tryz.prog (cx [eC88, eC90]) 20000 (eC91).1 (eC91).2.1 h0) = true := by kernel_rfl
theorem runC92 : pureOk 1000 (eC92).2.2 (call Tryz.prog (cx []) 20000 (eC92).1 (eC92).2.1 h0) = true := by kernel_rfl
theorem runC93 : pureOk 1000 (eC93).2.2 (call Tryz.prog (cx [eC92]) 20000 (eC93).1 (eC93).2.1 h0) = true := by kernel_rfl
theorem runC94 : pureOk 1000 (eC94).2.2 (call Tryz.prog (cx [eC93]) 20000 (eC94).1 (eC94).2.1 h0) = true := by kernel_rfl
theorem runC95 : pureOk 1000 (eC95).2.2 (call Tryz.prog (cx [eC94]) 20000 (eC95).1 (eC95).2.1 h0) = true := by kernel_rfl
theorem runC96 : pureOk 1000 (eC96).2.2 (call Tryz.prog (cx [eC95]) 20000 (eC96).1 (eC96).2.1 h0) = true := by kernel_rfl
theorem runC97 : pureOk 1000 (eC97).2.2 (call Tryz.prog (cx [eC96]) 20000 (eC97).1 (eC97).2.1 h0) = true := by kernel_rfl
theorem runC98 : pureOk 1000 (eC98).2.2 (call Tryz.prog (cx []) 20000 (eC98).1 (eC98).2.1 h0) = true := by kernel_rfl
theorem runC99 : pureOk 1000 (eC99).2.2 (call Tryz.prog (cx [eC2]) 20000 (eC99).1 (eC99).2.1 h0) = true := by kernel_rfl
theorem runC100 : pureOk 1000 (eC100).2.2 (call Tryz.prog (cx [eC3, eC4, eC6, eC7, eC8, eC9, eC11, eC12, eC98, eC99]) 20000 (eC100).1 (eC100).2.1 h0) = true := by kernel_rfl
theorem runC101 : pureOk 1000 (eC101).2.2 (call Tryz.prog (cx []) 20000 (eC101).1 (eC101).2.1 h0) = true := by kernel_rfl
end Go.Proofs.YtifgafdcadffiaaGreatDoor
