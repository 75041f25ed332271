/- LoopNames: calls, as the abstract machine reckons them, part 8. -/
import Derived.Test.YtifgafdcadffiaaGreatDoorLV
namespace Go.Proofs.YtifgafdcadffiaaGreatDoor
open Go.Ax
theorem runL139 : pureOk 1000 (eL139).2.2 (call Tryz.prog (cx []) 20000 (eL139).1 (eL139).2.1 h0) = true := by kernel_rfl
theorem runL140 : pureOk 1000 (eL140).2.2 (call Tryz.prog (cx []) 20000 (eL140).1 (eL140).2.1 h0) = true := by kernel_rfl
theorem runL141 : pureOk 1000 (eL141).2.2 (call Tryz.prog (cx []) 20000 (eL141).1 (eL141).2.1 h0) = true := by kernel_rfl
theorem runL142 : pureOk 1000 (eL142).2.2 (call Tryz.prog (cx []) 20000 (eL142).1 (eL142).2.1 h0) = true := by kernel_rfl
theorem runL143 : pureOk 1000 (eL143).2.2 (call Tryz.prog (cx [eL50]) 20000 (eL143).1 (eL143).2.1 h0) = true := by kernel_rfl
theorem runL144 : pureOk 1000 (eL144).2.2 (call Tryz.prog (cx []) 20000 (eL144).1 (eL144).2.1 h0) = true := by kernel_rfl
theorem runL145 : pureOk 1000 (eL145).2.2 (call Tryz.prog (cx []) 20000 (eL145).1 (eL145).2.1 h0) = true := by kernel_rfl
theorem runL146 : pureOk 1000 (eL146).2.2 (call Tryz.prog (cx [eL50]) 20000 (eL146).1 (eL146).2.1 h0) = true := by kernel_rfl
theorem runL147 : pureOk 1000 (eL147).2.2 (call Tryz.prog (cx []) 20000 (eL147).1 (eL147).2.1 h0) = true := by kernel_rfl
theorem runL148 : pureOk 1000 (eL148).2.2 (call Tryz.prog (cx []) 20000 (eL148).1 (eL148).2.1 h0) = true := by kernel_rfl
theorem runL149 : pureOk 1000 (eL149).2.2 (call Tryz.prog (cx [eL51]) 20000 (eL149).1 (eL149).2.1 h0) = true := by kernel_rfl
theorem runL150 : pureOk 1000 (eL150).2.2 (call Tryz.prog (cx []) 20000 (eL150).1 (eL150).2.1 h0) = true := by kernel_rfl
theorem runL151 : pureOk 1000 (eL151).2.2 (call Tryz.prog (cx []) 20000 (eL151).1 (eL151).2.1 h0) = true := by kernel_rfl
theorem runL152 : pureOk 1000 (eL152).2.2 (call Tryz.prog (cx []) 20000 (eL152).1 (eL152).2.1 h0) = true := by kernel_rfl
theorem runL153 : pureOk 1000 (eL153).2.2 (call Tryz.prog (cx [eL78, eL151, eL152]) 20000 (eL153).1 (eL153).2.1 h0) = true := by kernel_rfl
theorem runL154 : pureOk 1000 (eL154).2.2 (call Tryz.prog (cx [eL50]) 20000 (eL154).1 (eL154).2.1 h0) = true := by kernel_rfl
theorem runL155 : pureOk 1000 (eL155).2.2 (call Tryz.prog (cx []) 20000 (eL155).1 (eL155).2.1 h0) = true := by kernel_rfl
theorem runL156 : pureOk 1000 (eL156).2.2 (call Tryz.prog (cx []) 20000 (eL156).1 (eL156).2.1 h0) = true := by kernel_rfl
theorem runL157 : pureOk 1000 (eL157).2.2 (call Tryz.prog (cx []) 20000 (eL157).1 (eL157).2.1 h0) = true := by kernel_rfl
theorem runL158 : pureOk 1000 (eL158).2.2 (call Tryz.prog (cx []) 20000 (eL158).1 (eL158).2.1 h0) = true := by kernel_rfl
theorem runL159 : pureOk 1000 (eL159).2.2 (call Tryz.prog (cx []) 20000 (eL159).1 (eL159).2.1 h0) = true := by kernel_rfl
end Go.Proofs.YtifgafdcadffiaaGreatDoor
