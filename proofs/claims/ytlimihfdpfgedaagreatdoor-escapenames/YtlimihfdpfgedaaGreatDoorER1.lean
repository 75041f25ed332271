/- EscapeNames: calls, as the abstract machine reckons them, part 1. -/
import Derived.Test.YtlimihfdpfgedaaGreatDoorEV
namespace Go.Proofs.YtlimihfdpfgedaaGreatDoor
open Go.Ax
theorem runE26 : pureOk 1000 (eE26).2.2 (call Tryz.prog (cx [eE0, eE3, eE4, eE6, eE9, eE10, eE11, eE12, eE13, eE16, eE17, eE18, eE19, eE20, eE23, eE24, eE25]) 20000 (eE26).1 (eE26).2.1 h0) = true := by kernel_rfl
theorem runE27 : pureOk 1000 (eE27).2.2 (call Tryz.prog (cx []) 20000 (eE27).1 (eE27).2.1 h0) = true := by kernel_rfl
theorem runE28 : pureOk 1000 (eE28).2.2 (call Tryz.prog (cx [eE27]) 20000 (eE28).1 (eE28).2.1 h0) = true := by kernel_rfl
theorem runE29 : pureOk 1000 (eE29).2.2 (call Tryz.prog (cx [eE28]) 20000 (eE29).1 (eE29).2.1 h0) = true := by kernel_rfl
theorem runE30 : pureOk 1000 (eE30).2.2 (call Tryz.prog (cx [eE29]) 20000 (eE30).1 (eE30).2.1 h0) = true := by kernel_rfl
theorem runE31 : pureOk 1000 (eE31).2.2 (call Tryz.prog (cx [eE29]) 20000 (eE31).1 (eE31).2.1 h0) = true := by kernel_rfl
theorem runE32 : pureOk 1000 (eE32).2.2 (call Tryz.prog (cx [eE30, eE31]) 20000 (eE32).1 (eE32).2.1 h0) = true := by kernel_rfl
theorem runE33 : pureOk 1000 (eE33).2.2 (call Tryz.prog (cx [eE29]) 20000 (eE33).1 (eE33).2.1 h0) = true := by kernel_rfl
theorem runE34 : pureOk 1000 (eE34).2.2 (call Tryz.prog (cx []) 20000 (eE34).1 (eE34).2.1 h0) = true := by kernel_rfl
theorem runE35 : pureOk 1000 (eE35).2.2 (call Tryz.prog (cx []) 20000 (eE35).1 (eE35).2.1 h0) = true := by kernel_rfl
theorem runE36 : pureOk 1000 (eE36).2.2 (call Tryz.prog (cx []) 20000 (eE36).1 (eE36).2.1 h0) = true := by kernel_rfl
theorem runE37 : pureOk 1000 (eE37).2.2 (call Tryz.prog (cx []) 20000 (eE37).1 (eE37).2.1 h0) = true := by kernel_rfl
theorem runE38 : pureOk 1000 (eE38).2.2 (call Tryz.prog (cx []) 20000 (eE38).1 (eE38).2.1 h0) = true := by kernel_rfl
theorem runE39 : pureOk 1000 (eE39).2.2 (call Tryz.prog (cx [eE11, eE17, eE19, eE20, eE24, eE28, eE30, eE32, eE33, eE34, eE35, eE36, eE37, eE38]) 20000 (eE39).1 (eE39).2.1 h0) = true := by kernel_rfl
theorem runE40 : pureOk 1000 (eE40).2.2 (call Tryz.prog (cx [eE39]) 20000 (eE40).1 (eE40).2.1 h0) = true := by kernel_rfl
theorem runE41 : pureOk 1000 (eE41).2.2 (call Tryz.prog (cx [eE27]) 20000 (eE41).1 (eE41).2.1 h0) = true := by kernel_rfl
theorem runE42 : pureOk 1000 (eE42).2.2 (call Tryz.prog (cx []) 20000 (eE42).1 (eE42).2.1 h0) = true := by kernel_rfl
theorem runE43 : pureOk 1000 (eE43).2.2 (call Tryz.prog (cx [eE41, eE42]) 20000 (eE43).1 (eE43).2.1 h0) = true := by kernel_rfl
theorem runE44 : pureOk 1000 (eE44).2.2 (call Tryz.prog (cx [eE27]) 20000 (eE44).1 (eE44).2.1 h0) = true := by kernel_rfl
theorem runE45 : pureOk 1000 (eE45).2.2 (call Tryz.prog (cx []) 20000 (eE45).1 (eE45).2.1 h0) = true := by kernel_rfl
theorem runE46 : pureOk 1000 (eE46).2.2 (call Tryz.prog (cx [eE44, eE45]) 20000 (eE46).1 (eE46).2.1 h0) = true := by kernel_rfl
theorem runE47 : pureOk 1000 (eE47).2.2 (call Tryz.prog (cx []) 20000 (eE47).1 (eE47).2.1 h0) = true := by kernel_rfl
theorem runE48 : pureOk 1000 (eE48).2.2 (call Tryz.prog (cx [eE29, eE40, eE43, eE46]) 20000 (eE48).1 (eE48).2.1 h0) = true := by kernel_rfl
theorem runE49 : pureOk 1000 (eE49).2.2 (call Tryz.prog (cx []) 20000 (eE49).1 (eE49).2.1 h0) = true := by kernel_rfl
theorem runE50 : pureOk 1000 (eE50).2.2 (call Tryz.prog (cx [eE49]) 20000 (eE50).1 (eE50).2.1 h0) = true := by kernel_rfl
theorem runE51 : pureOk 1000 (eE51).2.2 (call Tryz.prog (cx []) 20000 (eE51).1 (eE51).2.1 h0) = true := by kernel_rfl
theorem runE52 : pureOk 1000 (eE52).2.2 (call Tryz.prog (cx []) 20000 (eE52).1 (eE52).2.1 h0) = true := by kernel_rfl
theorem runE53 : pureOk 1000 (eE53).2.2 (call Tryz.prog (cx []) 20000 (eE53).1 (eE53).2.1 h0) = true := by kernel_rfl
theorem runE54 : pureOk 1000 (eE54).2.2 (call Tryz.prog (cx [eE49]) 20000 (eE54).1 (eE54).2.1 h0) = true := by kernel_rfl
theorem runE55 : pureOk 1000 (eE55).2.2 (call Tryz.prog (cx []) 20000 (eE55).1 (eE55).2.1 h0) = true := by kernel_rfl
theorem runE56 : pureOk 1000 (eE56).2.2 (call Tryz.prog (cx []) 20000 (eE56).1 (eE56).2.1 h0) = true := by kernel_rfl
theorem runE57 : pureOk 1000 (eE57).2.2 (call Tryz.prog (cx [eE49]) 20000 (eE57).1 (eE57).2.1 h0) = true := by kernel_rfl
theorem runE58 : pureOk 1000 (eE58).2.2 (call Tryz.prog (cx []) 20000 (eE58).1 (eE58).2.1 h0) = true := by kernel_rfl
theorem runE59 : pureOk 1000 (eE59).2.2 (call Tryz.prog (cx []) 20000 (eE59).1 (eE59).2.1 h0) = true := by kernel_rfl
theorem runE60 : pureOk 1000 (eE60).2.2 (call Tryz.prog (cx []) 20000 (eE60).1 (eE60).2.1 h0) = true := by kernel_rfl
theorem runE61 : pureOk 1000 (eE61).2.2 (call Tryz.prog (cx []) 20000 (eE61).1 (eE61).2.1 h0) = true := by kernel_rfl
theorem runE62 : pureOk 1000 (eE62).2.2 (call Tryz.prog (cx [eE49]) 20000 (eE62).1 (eE62).2.1 h0) = true := by kernel_rfl
theorem runE63 : pureOk 1000 (eE63).2.2 (call Tryz.prog (cx [eE49]) 20000 (eE63).1 (eE63).2.1 h0) = true := by kernel_rfl
theorem runE64 : pureOk 1000 (eE64).2.2 (call Tryz.prog (cx [eE49]) 20000 (eE64).1 (eE64).2.1 h0) = true := by kernel_rfl
theorem runE65 : pureOk 1000 (eE65).2.2 (call Tryz.prog (cx [eE49]) 20000 (eE65).1 (eE65).2.1 h0) = true := by kernel_rfl
theorem runE66 : pureOk 1000 (eE66).2.2 (call Tryz.prog (cx [eE49]) 20000 (eE66).1 (eE66).2.1 h0) = true := by kernel_rfl
end Go.Proofs.YtlimihfdpfgedaaGreatDoor
