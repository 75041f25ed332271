/- ReloadNames: calls, as the abstract machine reckons them, part 12. -/
import Derived.Test.YtmmjfmbpilfehaaGreatDoorRV
namespace Go.Proofs.YtmmjfmbpilfehaaGreatDoor
open Go.Ax
theorem runR150 : pureOk 1000 (eR150).2.2 (call Tryz.prog (cx [eR3, eR4, eR6, eR9, eR10, eR11, eR12, eR16, eR17, eR18, eR21, eR25, eR26, eR146, eR147, eR148, eR149]) 20000 (eR150).1 (eR150).2.1 h0) = true := by kernel_rfl
theorem runR151 : pureOk 1000 (eR151).2.2 (call Tryz.prog (cx [eR31]) 20000 (eR151).1 (eR151).2.1 h0) = true := by kernel_rfl
theorem runR152 : pureOk 1000 (eR152).2.2 (call Tryz.prog (cx [eR151]) 20000 (eR152).1 (eR152).2.1 h0) = true := by kernel_rfl
theorem runR153 : pureOk 1000 (eR153).2.2 (call Tryz.prog (cx [eR152]) 20000 (eR153).1 (eR153).2.1 h0) = true := by kernel_rfl
theorem runR154 : pureOk 1000 (eR154).2.2 (call Tryz.prog (cx [eR152]) 20000 (eR154).1 (eR154).2.1 h0) = true := by kernel_rfl
theorem runR155 : pureOk 1000 (eR155).2.2 (call Tryz.prog (cx [eR153, eR154]) 20000 (eR155).1 (eR155).2.1 h0) = true := by kernel_rfl
theorem runR156 : pureOk 1000 (eR156).2.2 (call Tryz.prog (cx [eR152]) 20000 (eR156).1 (eR156).2.1 h0) = true := by kernel_rfl
theorem runR157 : pureOk 1000 (eR157).2.2 (call Tryz.prog (cx [eR151]) 20000 (eR157).1 (eR157).2.1 h0) = true := by kernel_rfl
theorem runR158 : pureOk 1000 (eR158).2.2 (call Tryz.prog (cx [eR157]) 20000 (eR158).1 (eR158).2.1 h0) = true := by kernel_rfl
theorem runR159 : pureOk 1000 (eR159).2.2 (call Tryz.prog (cx [eR157]) 20000 (eR159).1 (eR159).2.1 h0) = true := by kernel_rfl
theorem runR160 : pureOk 1000 (eR160).2.2 (call Tryz.prog (cx [eR158, eR159]) 20000 (eR160).1 (eR160).2.1 h0) = true := by kernel_rfl
theorem runR161 : pureOk 1000 (eR161).2.2 (call Tryz.prog (cx [eR157]) 20000 (eR161).1 (eR161).2.1 h0) = true := by kernel_rfl
theorem runR162 : pureOk 1000 (eR162).2.2 (call Tryz.prog (cx []) 20000 (eR162).1 (eR162).2.1 h0) = true := by kernel_rfl
theorem runR163 : pureOk 1000 (eR163).2.2 (call Tryz.prog (cx []) 20000 (eR163).1 (eR163).2.1 h0) = true := by kernel_rfl
end Go.Proofs.YtmmjfmbpilfehaaGreatDoor
