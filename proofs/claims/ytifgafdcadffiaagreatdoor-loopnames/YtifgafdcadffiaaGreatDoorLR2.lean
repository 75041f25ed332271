/- LoopNames: calls, as the abstract machine reckons them, part 2. -/
import Derived.Test.YtifgafdcadffiaaGreatDoorLV
namespace Go.Proofs.YtifgafdcadffiaaGreatDoor
open Go.Ax
theorem runL39 : pureOk 1000 (eL39).2.2 (call Tryz.prog (cx []) 20000 (eL39).1 (eL39).2.1 h0) = true := by kernel_rfl
theorem runL40 : pureOk 1000 (eL40).2.2 (call Tryz.prog (cx []) 20000 (eL40).1 (eL40).2.1 h0) = true := by kernel_rfl
theorem runL41 : pureOk 1000 (eL41).2.2 (call Tryz.prog (cx []) 20000 (eL41).1 (eL41).2.1 h0) = true := by kernel_rfl
theorem runL42 : pureOk 1000 (eL42).2.2 (call Tryz.prog (cx []) 20000 (eL42).1 (eL42).2.1 h0) = true := by kernel_rfl
theorem runL43 : pureOk 1000 (eL43).2.2 (call Tryz.prog (cx [eL42]) 20000 (eL43).1 (eL43).2.1 h0) = true := by kernel_rfl
theorem runL44 : pureOk 1000 (eL44).2.2 (call Tryz.prog (cx [eL43]) 20000 (eL44).1 (eL44).2.1 h0) = true := by kernel_rfl
theorem runL45 : pureOk 1000 (eL45).2.2 (call Tryz.prog (cx []) 20000 (eL45).1 (eL45).2.1 h0) = true := by kernel_rfl
theorem runL46 : pureOk 1000 (eL46).2.2 (call Tryz.prog (cx [eL45]) 20000 (eL46).1 (eL46).2.1 h0) = true := by kernel_rfl
theorem runL47 : pureOk 1000 (eL47).2.2 (call Tryz.prog (cx [eL46]) 20000 (eL47).1 (eL47).2.1 h0) = true := by kernel_rfl
theorem runL48 : pureOk 1000 (eL48).2.2 (call Tryz.prog (cx [eL0, eL1, eL3, eL6, eL7, eL10, eL11, eL12, eL13, eL14, eL15, eL16, eL17, eL18, eL19, eL20, eL21, eL22, eL25, eL27, eL30, eL31, eL34, eL37, eL38, eL39, eL40, eL41, eL44, eL47]) 20000 (eL48).1 (eL48).2.1 h0) = true := by kernel_rfl
theorem runL49 : pureOk 1000 (eL49).2.2 (call Tryz.prog (cx []) 20000 (eL49).1 (eL49).2.1 h0) = true := by kernel_rfl
end Go.Proofs.YtifgafdcadffiaaGreatDoor
