/- LoopNames: calls, as the abstract machine reckons them, part 1. -/
import Derived.Test.YtifgafdcadffiaaGreatDoorLV
namespace Go.Proofs.YtifgafdcadffiaaGreatDoor
open Go.Ax
theorem runL1 : pureOk 1000 (eL1).2.2 (call Tryz.prog (cx []) 20000 (eL1).1 (eL1).2.1 h0) = true := by kernel_rfl
theorem runL2 : pureOk 1000 (eL2).2.2 (call Tryz.prog (cx [eL1]) 20000 (eL2).1 (eL2).2.1 h0) = true := by kernel_rfl
theorem runL3 : pureOk 1000 (eL3).2.2 (call Tryz.prog (cx [eL2]) 20000 (eL3).1 (eL3).2.1 h0) = true := by kernel_rfl
theorem runL4 : pureOk 1000 (eL4).2.2 (call Tryz.prog (cx []) 20000 (eL4).1 (eL4).2.1 h0) = true := by kernel_rfl
theorem runL5 : pureOk 1000 (eL5).2.2 (call Tryz.prog (cx [eL4]) 20000 (eL5).1 (eL5).2.1 h0) = true := by kernel_rfl
theorem runL6 : pureOk 1000 (eL6).2.2 (call Tryz.prog (cx [eL5]) 20000 (eL6).1 (eL6).2.1 h0) = true := by kernel_rfl
theorem runL7 : pureOk 1000 (eL7).2.2 (call Tryz.prog (cx [eL2]) 20000 (eL7).1 (eL7).2.1 h0) = true := by kernel_rfl
theorem runL8 : pureOk 1000 (eL8).2.2 (call Tryz.prog (cx []) 20000 (eL8).1 (eL8).2.1 h0) = true := by kernel_rfl
theorem runL9 : pureOk 1000 (eL9).2.2 (call Tryz.prog (cx [eL8]) 20000 (eL9).1 (eL9).2.1 h0) = true := by kernel_rfl
theorem runL10 : pureOk 1000 (eL10).2.2 (call Tryz.prog (cx [eL9]) 20000 (eL10).1 (eL10).2.1 h0) = true := by kernel_rfl
theorem runL11 : pureOk 1000 (eL11).2.2 (call Tryz.prog (cx []) 20000 (eL11).1 (eL11).2.1 h0) = true := by kernel_rfl
theorem runL12 : pureOk 1000 (eL12).2.2 (call Tryz.prog (cx []) 20000 (eL12).1 (eL12).2.1 h0) = true := by kernel_rfl
theorem runL13 : pureOk 1000 (eL13).2.2 (call Tryz.prog (cx [eL9]) 20000 (eL13).1 (eL13).2.1 h0) = true := by kernel_rfl
theorem runL14 : pureOk 1000 (eL14).2.2 (call Tryz.prog (cx []) 20000 (eL14).1 (eL14).2.1 h0) = true := by kernel_rfl
theorem runL15 : pureOk 1000 (eL15).2.2 (call Tryz.prog (cx []) 20000 (eL15).1 (eL15).2.1 h0) = true := by kernel_rfl
theorem runL16 : pureOk 1000 (eL16).2.2 (call Tryz.prog (cx []) 20000 (eL16).1 (eL16).2.1 h0) = true := by kernel_rfl
theorem runL17 : pureOk 1000 (eL17).2.2 (call Tryz.prog (cx [eL9]) 20000 (eL17).1 (eL17).2.1 h0) = true := by kernel_rfl
theorem runL18 : pureOk 1000 (eL18).2.2 (call Tryz.prog (cx [eL5]) 20000 (eL18).1 (eL18).2.1 h0) = true := by kernel_rfl
theorem runL19 : pureOk 1000 (eL19).2.2 (call Tryz.prog (cx []) 20000 (eL19).1 (eL19).2.1 h0) = true := by kernel_rfl
theorem runL20 : pureOk 1000 (eL20).2.2 (call Tryz.prog (cx []) 20000 (eL20).1 (eL20).2.1 h0) = true := by kernel_rfl
theorem runL21 : pureOk 1000 (eL21).2.2 (call Tryz.prog (cx [eL2]) 20000 (eL21).1 (eL21).2.1 h0) = true := by kernel_rfl
theorem runL22 : pureOk 1000 (eL22).2.2 (call Tryz.prog (cx [eL5]) 20000 (eL22).1 (eL22).2.1 h0) = true := by kernel_rfl
theorem runL23 : pureOk 1000 (eL23).2.2 (call Tryz.prog (cx []) 20000 (eL23).1 (eL23).2.1 h0) = true := by kernel_rfl
theorem runL24 : pureOk 1000 (eL24).2.2 (call Tryz.prog (cx [eL23]) 20000 (eL24).1 (eL24).2.1 h0) = true := by kernel_rfl
theorem runL25 : pureOk 1000 (eL25).2.2 (call Tryz.prog (cx [eL24]) 20000 (eL25).1 (eL25).2.1 h0) = true := by kernel_rfl
theorem runL26 : pureOk 1000 (eL26).2.2 (call Tryz.prog (cx [eL16]) 20000 (eL26).1 (eL26).2.1 h0) = true := by kernel_rfl
theorem runL27 : pureOk 1000 (eL27).2.2 (call Tryz.prog (cx [eL26]) 20000 (eL27).1 (eL27).2.1 h0) = true := by kernel_rfl
theorem runL28 : pureOk 1000 (eL28).2.2 (call Tryz.prog (cx []) 20000 (eL28).1 (eL28).2.1 h0) = true := by kernel_rfl
theorem runL29 : pureOk 1000 (eL29).2.2 (call Tryz.prog (cx [eL28]) 20000 (eL29).1 (eL29).2.1 h0) = true := by kernel_rfl
theorem runL30 : pureOk 1000 (eL30).2.2 (call Tryz.prog (cx [eL29]) 20000 (eL30).1 (eL30).2.1 h0) = true := by kernel_rfl
theorem runL31 : pureOk 1000 (eL31).2.2 (call Tryz.prog (cx [eL26]) 20000 (eL31).1 (eL31).2.1 h0) = true := by kernel_rfl
theorem runL32 : pureOk 1000 (eL32).2.2 (call Tryz.prog (cx []) 20000 (eL32).1 (eL32).2.1 h0) = true := by kernel_rfl
theorem runL33 : pureOk 1000 (eL33).2.2 (call Tryz.prog (cx [eL32]) 20000 (eL33).1 (eL33).2.1 h0) = true := by kernel_rfl
theorem runL34 : pureOk 1000 (eL34).2.2 (call Tryz.prog (cx [eL33]) 20000 (eL34).1 (eL34).2.1 h0) = true := by kernel_rfl
theorem runL35 : pureOk 1000 (eL35).2.2 (call Tryz.prog (cx []) 20000 (eL35).1 (eL35).2.1 h0) = true := by kernel_rfl
theorem runL36 : pureOk 1000 (eL36).2.2 (call Tryz.prog (cx [eL35]) 20000 (eL36).1 (eL36).2.1 h0) = true := by kernel_rfl
theorem runL37 : pureOk 1000 (eL37).2.2 (call Tryz.prog (cx [eL36]) 20000 (eL37).1 (eL37).2.1 h0) = true := by kernel_rfl
theorem runL38 : pureOk 1000 (eL38).2.2 (call Tryz.prog (cx []) 20000 (eL38).1 (eL38).2.1 h0) = true := by kernel_rfl
end Go.Proofs.YtifgafdcadffiaaGreatDoor
