/- CallsNames: calls, as the abstract machine reckons them, part 3. -/
import Derived.Test.YtifgafdcadffiaaGreatDoorCV
namespace Go.Proofs.YtifgafdcadffiaaGreatDoor
open Go.Ax
theorem runC42 : pureOk 1000 (eC42).2.2 (call Tryz.prog (cx []) 20000 (eC42).1 (eC42).2.1 h0) = true := by kernel_rfl
theorem runC43 : pureOk 1000 (eC43).2.2 (call Tryz.prog (cx [eC34]) 20000 (eC43).1 (eC43).2.1 h0) = true := by kernel_rfl
theorem runC44 : pureOk 1000 (eC44).2.2 (call Tryz.prog (cx [eC43]) 20000 (eC44).1 (eC44).2.1 h0) = true := by kernel_rfl
theorem runC45 : pureOk 1000 (eC45).2.2 (call Tryz.prog (cx [eC43]) 20000 (eC45).1 (eC45).2.1 h0) = true := by kernel_rfl
theorem runC46 : pureOk 1000 (eC46).2.2 (call Tryz.prog (cx [eC44, eC45]) 20000 (eC46).1 (eC46).2.1 h0) = true := by kernel_rfl
theorem runC47 : pureOk 1000 (eC47).2.2 (call Tryz.prog (cx [eC43]) 20000 (eC47).1 (eC47).2.1 h0) = true := by kernel_rfl
theorem runC48 : pureOk 1000 (eC48).2.2 (call Tryz.prog (cx []) 20000 (eC48).1 (eC48).2.1 h0) = true := by kernel_rfl
theorem runC49 : pureOk 1000 (eC49).2.2 (call Tryz.prog (cx []) 20000 (eC49).1 (eC49).2.1 h0) = true := by kernel_rfl
theorem runC50 : pureOk 1000 (eC50).2.2 (call Tryz.prog (cx [eC43]) 20000 (eC50).1 (eC50).2.1 h0) = true := by kernel_rfl
theorem runC51 : pureOk 1000 (eC51).2.2 (call Tryz.prog (cx []) 20000 (eC51).1 (eC51).2.1 h0) = true := by kernel_rfl
theorem runC52 : pureOk 1000 (eC52).2.2 (call Tryz.prog (cx []) 20000 (eC52).1 (eC52).2.1 h0) = true := by kernel_rfl
theorem runC53 : pureOk 1000 (eC53).2.2 (call Tryz.prog (cx [eC43]) 20000 (eC53).1 (eC53).2.1 h0) = true := by kernel_rfl
theorem runC54 : pureOk 1000 (eC54).2.2 (call Tryz.prog (cx []) 20000 (eC54).1 (eC54).2.1 h0) = true := by kernel_rfl
theorem runC55 : pureOk 1000 (eC55).2.2 (call Tryz.prog (cx []) 20000 (eC55).1 (eC55).2.1 h0) = true := by kernel_rfl
theorem runC56 : pureOk 1000 (eC56).2.2 (call Tryz.prog (cx [eC34]) 20000 (eC56).1 (eC56).2.1 h0) = true := by kernel_rfl
theorem runC57 : pureOk 1000 (eC57).2.2 (call Tryz.prog (cx [eC56]) 20000 (eC57).1 (eC57).2.1 h0) = true := by kernel_rfl
theorem runC58 : pureOk 1000 (eC58).2.2 (call Tryz.prog (cx [eC56]) 20000 (eC58).1 (eC58).2.1 h0) = true := by kernel_rfl
theorem runC59 : pureOk 1000 (eC59).2.2 (call Tryz.prog (cx [eC57, eC58]) 20000 (eC59).1 (eC59).2.1 h0) = true := by kernel_rfl
theorem runC60 : pureOk 1000 (eC60).2.2 (call Tryz.prog (cx [eC56]) 20000 (eC60).1 (eC60).2.1 h0) = true := by kernel_rfl
theorem runC61 : pureOk 1000 (eC61).2.2 (call Tryz.prog (cx []) 20000 (eC61).1 (eC61).2.1 h0) = true := by kernel_rfl
theorem runC62 : pureOk 1000 (eC62).2.2 (call Tryz.prog (cx []) 20000 (eC62).1 (eC62).2.1 h0) = true := by kernel_rfl
theorem runC63 : pureOk 1000 (eC63).2.2 (call Tryz.prog (cx [eC8, eC9, eC11, eC17, eC29, eC34, eC36, eC38, eC39, eC40, eC41, eC42, eC44, eC46, eC47, eC48, eC49, eC50, eC51, eC52, eC53, eC54, eC55, eC57, eC59, eC60, eC61, eC62]) 20000 (eC63).1 (eC63).2.1 h0) = true := by kernel_rfl
theorem runC64 : pureOk 1000 (eC64).2.2 (call Tryz.prog (cx [eC63]) 20000 (eC64).1 (eC64).2.1 h0) = true := by kernel_rfl
end Go.Proofs.YtifgafdcadffiaaGreatDoor
