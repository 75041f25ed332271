/- ScalarNames: calls, as the abstract machine reckons them, part 14. -/
import Derived.Test.YtolmndaigpcdaaaGreatDoorKV
namespace Go.Proofs.YtolmndaigpcdaaaGreatDoor
open Go.Ax
theorem runK141 : pureOk 1000 (eK141).2.2 (call Tryz.prog (cx [eK25]) 20000 (eK141).1 (eK141).2.1 h0) = true := by kernel_rfl
theorem runK142 : pureOk 1000 (eK142).2.2 (call Tryz.prog (cx [eK141]) 20000 (eK142).1 (eK142).2.1 h0) = true := by kernel_rfl
theorem runK143 : pureOk 1000 (eK143).2.2 (call Tryz.prog (cx [eK141]) 20000 (eK143).1 (eK143).2.1 h0) = true := by kernel_rfl
theorem runK144 : pureOk 1000 (eK144).2.2 (call Tryz.prog (cx [eK142, eK143]) 20000 (eK144).1 (eK144).2.1 h0) = true := by kernel_rfl
theorem runK145 : pureOk 1000 (eK145).2.2 (call Tryz.prog (cx [eK141]) 20000 (eK145).1 (eK145).2.1 h0) = true := by kernel_rfl
theorem runK146 : pureOk 1000 (eK146).2.2 (call Tryz.prog (cx []) 20000 (eK146).1 (eK146).2.1 h0) = true := by kernel_rfl
theorem runK147 : pureOk 1000 (eK147).2.2 (call Tryz.prog (cx []) 20000 (eK147).1 (eK147).2.1 h0) = true := by kernel_rfl
theorem runK148 : pureOk 1000 (eK148).2.2 (call Tryz.prog (cx []) 20000 (eK148).1 (eK148).2.1 h0) = true := by kernel_rfl
theorem runK149 : pureOk 1000 (eK149).2.2 (call Tryz.prog (cx []) 20000 (eK149).1 (eK149).2.1 h0) = true := by kernel_rfl
theorem runK150 : pureOk 1000 (eK150).2.2 (call Tryz.prog (cx []) 20000 (eK150).1 (eK150).2.1 h0) = true := by kernel_rfl
theorem runK151 : pureOk 1000 (eK151).2.2 (call Tryz.prog (cx []) 20000 (eK151).1 (eK151).2.1 h0) = true := by kernel_rfl
theorem runK152 : pureOk 1000 (eK152).2.2 (call Tryz.prog (cx []) 20000 (eK152).1 (eK152).2.1 h0) = true := by kernel_rfl
theorem runK153 : pureOk 1000 (eK153).2.2 (call Tryz.prog (cx []) 20000 (eK153).1 (eK153).2.1 h0) = true := by kernel_rfl
theorem runK154 : pureOk 1000 (eK154).2.2 (call Tryz.prog (cx [eK112, eK141, eK142, eK144, eK145, eK146, eK147, eK148, eK149, eK150, eK151, eK152, eK153]) 20000 (eK154).1 (eK154).2.1 h0) = true := by kernel_rfl
theorem runK155 : pureOk 1000 (eK155).2.2 (call Tryz.prog (cx [eK154]) 20000 (eK155).1 (eK155).2.1 h0) = true := by kernel_rfl
theorem runK156 : pureOk 1000 (eK156).2.2 (call Tryz.prog (cx [eK141]) 20000 (eK156).1 (eK156).2.1 h0) = true := by kernel_rfl
theorem runK157 : pureOk 1000 (eK157).2.2 (call Tryz.prog (cx [eK142, eK143, eK156]) 20000 (eK157).1 (eK157).2.1 h0) = true := by kernel_rfl
end Go.Proofs.YtolmndaigpcdaaaGreatDoor
