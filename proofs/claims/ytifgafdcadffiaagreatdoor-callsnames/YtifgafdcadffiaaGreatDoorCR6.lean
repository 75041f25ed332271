/- CallsNames: calls, as the abstract machine reckons them, part 6. -/
import Derived.Test.YtifgafdcadffiaaGreatDoorCV
namespace Go.Proofs.YtifgafdcadffiaaGreatDoor
open Go.Ax
theorem runC102 : pureOk 1000 (eC102).2.2 (call Tryz.prog (cx [eC101]) 20000 (eC102).1 (eC102).2.1 h0) = true := by kernel_rfl
theorem runC103 : pureOk 1000 (eC103).2.2 (call Tryz.prog (cx [eC102]) 20000 (eC103).1 (eC103).2.1 h0) = true := by kernel_rfl
theorem runC104 : pureOk 1000 (eC104).2.2 (call Tryz.prog (cx [eC103]) 20000 (eC104).1 (eC104).2.1 h0) = true := by kernel_rfl
theorem runC105 : pureOk 1000 (eC105).2.2 (call Tryz.prog (cx [eC103]) 20000 (eC105).1 (eC105).2.1 h0) = true := by kernel_rfl
theorem runC106 : pureOk 1000 (eC106).2.2 (call Tryz.prog (cx [eC104, eC105]) 20000 (eC106).1 (eC106).2.1 h0) = true := by kernel_rfl
theorem runC107 : pureOk 1000 (eC107).2.2 (call Tryz.prog (cx [eC103]) 20000 (eC107).1 (eC107).2.1 h0) = true := by kernel_rfl
theorem runC108 : pureOk 1000 (eC108).2.2 (call Tryz.prog (cx [eC102]) 20000 (eC108).1 (eC108).2.1 h0) = true := by kernel_rfl
theorem runC109 : pureOk 1000 (eC109).2.2 (call Tryz.prog (cx [eC108]) 20000 (eC109).1 (eC109).2.1 h0) = true := by kernel_rfl
theorem runC110 : pureOk 1000 (eC110).2.2 (call Tryz.prog (cx [eC108]) 20000 (eC110).1 (eC110).2.1 h0) = true := by kernel_rfl
theorem runC111 : pureOk 1000 (eC111).2.2 (call Tryz.prog (cx [eC109, eC110]) 20000 (eC111).1 (eC111).2.1 h0) = true := by kernel_rfl
theorem runC112 : pureOk 1000 (eC112).2.2 (call Tryz.prog (cx [eC108]) 20000 (eC112).1 (eC112).2.1 h0) = true := by kernel_rfl
theorem runC113 : pureOk 1000 (eC113).2.2 (call Tryz.prog (cx [eC8, eC11, eC12, eC40, eC62, eC102, eC104, eC106, eC107, eC109, eC111, eC112]) 20000 (eC113).1 (eC113).2.1 h0) = true := by kernel_rfl
theorem runC114 : pureOk 1000 (eC114).2.2 (call Tryz.prog (cx [eC113]) 20000 (eC114).1 (eC114).2.1 h0) = true := by kernel_rfl
theorem runC115 : pureOk 1000 (eC115).2.2 (call Tryz.prog (cx [eC103, eC108, eC114]) 20000 (eC115).1 (eC115).2.1 h0) = true := by kernel_rfl
theorem runC116 : pureOk 1000 (eC116).2.2 (call Tryz.prog (cx []) 20000 (eC116).1 (eC116).2.1 h0) = true := by kernel_rfl
theorem runC117 : pureOk 1000 (eC117).2.2 (call Tryz.prog (cx [eC103, eC108, eC114]) 20000 (eC117).1 (eC117).2.1 h0) = true := by kernel_rfl
theorem runC118 : pureOk 1000 (eC118).2.2 (call Tryz.prog (cx []) 20000 (eC118).1 (eC118).2.1 h0) = true := by kernel_rfl
theorem runC119 : pureOk 1000 (eC119).2.2 (call Tryz.prog (cx [eC118]) 20000 (eC119).1 (eC119).2.1 h0) = true := by kernel_rfl
theorem runC120 : pureOk 1000 (eC120).2.2 (call Tryz.prog (cx [eC118]) 20000 (eC120).1 (eC120).2.1 h0) = true := by kernel_rfl
theorem runC121 : pureOk 1000 (eC121).2.2 (call Tryz.prog (cx [eC118]) 20000 (eC121).1 (eC121).2.1 h0) = true := by kernel_rfl
theorem runC122 : pureOk 1000 (eC122).2.2 (call Tryz.prog (cx [eC118]) 20000 (eC122).1 (eC122).2.1 h0) = true := by kernel_rfl
theorem runC123 : pureOkN 1000 (eC123).2.2 (callAll Tryz.prog (cx [eC103, eC108, eC114, eC116, eC117, eC119, eC120, eC121, eC122]) nkC 20000 (eC123).1 (eC123).2.1) = true := by kernel_rfl
theorem runC124 : pureOk 1000 (eC124).2.2 (call Tryz.prog (cx [eC115, eC123]) 20000 (eC124).1 (eC124).2.1 h0) = true := by kernel_rfl
theorem runC125 : pureOkN 1000 (eC125).2.2 (callAll Tryz.prog (cx [eC124]) nkC 20000 (eC125).1 (eC125).2.1) = true := by kernel_rfl
theorem runC126 : pureOk 1000 (eC126).2.2 (call Tryz.prog (cx [eC103, eC125]) 20000 (eC126).1 (eC126).2.1 h0) = true := by kernel_rfl
theorem runC127 : pureOk 1000 (eC127).2.2 (call Tryz.prog (cx []) 20000 (eC127).1 (eC127).2.1 h0) = true := by kernel_rfl
end Go.Proofs.YtifgafdcadffiaaGreatDoor
