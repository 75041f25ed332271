/- CallsNames: calls, as the abstract machine reckons them, part 4. -/
import Derived.Test.YtifgafdcadffiaaGreatDoorCV
namespace Go.Proofs.YtifgafdcadffiaaGreatDoor
open Go.Ax
theorem runC65 : pureOk 1000 (eC65).2.2 (call Tryz.prog (cx [eC35, eC43, eC56, eC64]) 20000 (eC65).1 (eC65).2.1 h0) = true := by kernel_rfl
theorem runC66 : pureOk 1000 (eC66).2.2 (call Tryz.prog (cx []) 20000 (eC66).1 (eC66).2.1 h0) = true := by kernel_rfl
theorem runC67 : pureOk 1000 (eC67).2.2 (call Tryz.prog (cx [eC35, eC43, eC56, eC64]) 20000 (eC67).1 (eC67).2.1 h0) = true := by kernel_rfl
theorem runC68 : pureOk 1000 (eC68).2.2 (call Tryz.prog (cx []) 20000 (eC68).1 (eC68).2.1 h0) = true := by kernel_rfl
theorem runC69 : pureOk 1000 (eC69).2.2 (call Tryz.prog (cx [eC68]) 20000 (eC69).1 (eC69).2.1 h0) = true := by kernel_rfl
theorem runC70 : pureOk 1000 (eC70).2.2 (call Tryz.prog (cx []) 20000 (eC70).1 (eC70).2.1 h0) = true := by kernel_rfl
theorem runC71 : pureOk 1000 (eC71).2.2 (call Tryz.prog (cx []) 20000 (eC71).1 (eC71).2.1 h0) = true := by kernel_rfl
theorem runC72 : pureOk 1000 (eC72).2.2 (call Tryz.prog (cx []) 20000 (eC72).1 (eC72).2.1 h0) = true := by kernel_rfl
theorem runC73 : pureOk 1000 (eC73).2.2 (call Tryz.prog (cx [eC68]) 20000 (eC73).1 (eC73).2.1 h0) = true := by kernel_rfl
theorem runC74 : pureOk 1000 (eC74).2.2 (call Tryz.prog (cx [eC68]) 20000 (eC74).1 (eC74).2.1 h0) = true := by kernel_rfl
theorem runC75 : pureOk 1000 (eC75).2.2 (call Tryz.prog (cx [eC70]) 20000 (eC75).1 (eC75).2.1 h0) = true := by kernel_rfl
theorem runC76 : pureOk 1000 (eC76).2.2 (call Tryz.prog (cx [eC68]) 20000 (eC76).1 (eC76).2.1 h0) = true := by kernel_rfl
theorem runC77 : pureOk 1000 (eC77).2.2 (call Tryz.prog (cx [eC68]) 20000 (eC77).1 (eC77).2.1 h0) = true := by kernel_rfl
theorem runC78 : pureOk 1000 (eC78).2.2 (call Tryz.prog (cx [eC68]) 20000 (eC78).1 (eC78).2.1 h0) = true := by kernel_rfl
theorem runC79 : pureOk 1000 (eC79).2.2 (call Tryz.prog (cx [eC68]) 20000 (eC79).1 (eC79).2.1 h0) = true := by kernel_rfl
theorem runC80 : pureOk 1000 (eC80).2.2 (call Tryz.prog (cx [eC68]) 20000 (eC80).1 (eC80).2.1 h0) = true := by kernel_rfl
theorem runC81 : pureOk 1000 (eC81).2.2 (call Tryz.prog (cx [eC68]) 20000 (eC81).1 (eC81).2.1 h0) = true := by kernel_rfl
theorem runC82 : pureOk 1000 (eC82).2.2 (call Tryz.prog (cx [eC68]) 20000 (eC82).1 (eC82).2.1 h0) = true := by kernel_rfl
theorem runC83 : pureOk 1000 (eC83).2.2 (call Tryz.prog (cx [eC68]) 20000 (eC83).1 (eC83).2.1 h0) = true := by kernel_rfl
theorem runC84 : pureOkN 1000 (eC84).2.2 (callAll Tryz.prog (cx [eC35, eC43, eC56, eC64, eC66, eC67, eC69, eC70, eC71, eC72, eC73, eC74, eC75, eC76, eC77, eC78, eC79, eC80, eC81, eC82, eC83]) nkC 20000 (eC84).1 (eC84).2.1) = true := by kernel_rfl
theorem runC85 : pureOk 1000 (eC85).2.2 (call Tryz.prog (cx []) 20000 (eC85).1 (eC85).2.1 h0) = true := by kernel_rfl
theorem runC86 : pureOk 1000 (eC86).2.2 (call Tryz.prog (cx [eC85]) 20000 (eC86).1 (eC86).2.1 h0) = true := by kernel_rfl
theorem runC87 : pureOk 1000 (eC87).2.2 (call Tryz.prog (cx [eC65, eC84, eC86]) 20000 (eC87).1 (eC87).2.1 h0) = true := by kernel_rfl
theorem runC88 : pureOkN 1000 (eC88).2.2 (callAll Tryz.prog (cx [eC87]) nkC 20000 (eC88).1 (eC88).2.1) = true := by kernel_rfl
end Go.Proofs.YtifgafdcadffiaaGreatDoor
