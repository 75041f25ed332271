/- EscapeNames: calls, as the abstract machine reckons them, part 2. -/
import Derived.Test.YtlimihfdpfgedaaGreatDoorEV
namespace Go.Proofs.YtlimihfdpfgedaaGreatDoor
open Go.Ax
theorem runE67 : pureOkN 1000 (eE67).2.2 (callAll Tryz.prog (cx [eE29, eE40, eE43, eE46, eE47, eE48, eE50, eE51, eE52, eE53, eE54, eE55, eE56, eE57, eE58, eE59, eE60, eE61, eE62, eE63, eE64, eE65, eE66]) (nkE []) 20000 (eE67).1 (eE67).2.1) = true := by kernel_rfl
theorem runE68 : pureOk 1000 (eE68).2.2 (call Tryz.prog (cx [eE29, eE40, eE43, eE46]) 20000 (eE68).1 (eE68).2.1 h0) = true := by kernel_rfl
theorem runE69 : pureOk 1000 (eE69).2.2 (call Tryz.prog (cx [eE67, eE68]) 20000 (eE69).1 (eE69).2.1 h0) = true := by kernel_rfl
theorem runE70 : pureOk 1000 (eE70).2.2 (call Tryz.prog (cx [eE29, eE40, eE43, eE46]) 20000 (eE70).1 (eE70).2.1 h0) = true := by kernel_rfl
theorem runE71 : pureOk 1000 (eE71).2.2 (call Tryz.prog (cx []) 20000 (eE71).1 (eE71).2.1 h0) = true := by kernel_rfl
theorem runE72 : pureOk 1000 (eE72).2.2 (call Tryz.prog (cx [eE51]) 20000 (eE72).1 (eE72).2.1 h0) = true := by kernel_rfl
theorem runE73 : pureOk 1000 (eE73).2.2 (call Tryz.prog (cx []) 20000 (eE73).1 (eE73).2.1 h0) = true := by kernel_rfl
theorem runE74 : pureOk 1000 (eE74).2.2 (call Tryz.prog (cx [eE73]) 20000 (eE74).1 (eE74).2.1 h0) = true := by kernel_rfl
theorem runE75 : pureOk 1000 (eE75).2.2 (call Tryz.prog (cx []) 20000 (eE75).1 (eE75).2.1 h0) = true := by kernel_rfl
theorem runE76 : pureOk 1000 (eE76).2.2 (call Tryz.prog (cx [eE75]) 20000 (eE76).1 (eE76).2.1 h0) = true := by kernel_rfl
theorem runE77 : pureOk 1000 (eE77).2.2 (call Tryz.prog (cx [eE29, eE40, eE43, eE46, eE67, eE69, eE70, eE71, eE72, eE74, eE76]) 20000 (eE77).1 (eE77).2.1 h0) = true := by kernel_rfl
theorem runE78 : pureOk 1000 (eE78).2.2 (call Tryz.prog (cx []) 20000 (eE78).1 (eE78).2.1 h0) = true := by kernel_rfl
theorem runE79 : pureOk 1000 (eE79).2.2 (call Tryz.prog (cx []) 20000 (eE79).1 (eE79).2.1 h0) = true := by kernel_rfl
theorem runE80 : pureOk 1000 (eE80).2.2 (call Tryz.prog (cx []) 20000 (eE80).1 (eE80).2.1 h0) = true := by kernel_rfl
theorem runE81 : pureOk 1000 (eE81).2.2 (call Tryz.prog (cx [eE2]) 20000 (eE81).1 (eE81).2.1 h0) = true := by kernel_rfl
theorem runE82 : pureOk 1000 (eE82).2.2 (call Tryz.prog (cx [eE3, eE6, eE9, eE10, eE11, eE12, eE13, eE78, eE79, eE80, eE81]) 20000 (eE82).1 (eE82).2.1 h0) = true := by kernel_rfl
end Go.Proofs.YtlimihfdpfgedaaGreatDoor
