/- ReloadNames: calls, as the abstract machine reckons them, part 13. -/
import Derived.Test.YtmmjfmbpilfehaaGreatDoorRV
namespace Go.Proofs.YtmmjfmbpilfehaaGreatDoor
open Go.Ax
theorem runR164 : pureOk 1000 (eR164).2.2 (call Tryz.prog (cx [eR11, eR17, eR18, eR25, eR38, eR39, eR52, eR148, eR151, eR153, eR155, eR156, eR158, eR160, eR161, eR162, eR163]) 20000 (eR164).1 (eR164).2.1 h0) = true := by kernel_rfl
theorem runR165 : pureOk 1000 (eR165).2.2 (call Tryz.prog (cx []) 20000 (eR165).1 (eR165).2.1 h0) = true := by kernel_rfl
theorem runR166 : pureOk 1000 (eR166).2.2 (call Tryz.prog (cx [eR165]) 20000 (eR166).1 (eR166).2.1 h0) = true := by kernel_rfl
theorem runR167 : pureOk 1000 (eR167).2.2 (call Tryz.prog (cx [eR164]) 20000 (eR167).1 (eR167).2.1 h0) = true := by kernel_rfl
theorem runR168 : pureOk 1000 (eR168).2.2 (call Tryz.prog (cx []) 20000 (eR168).1 (eR168).2.1 h0) = true := by kernel_rfl
theorem runR169 : pureOk 1000 (eR169).2.2 (call Tryz.prog (cx [eR59, eR152, eR157, eR167]) 20000 (eR169).1 (eR169).2.1 h0) = true := by kernel_rfl
theorem runR170 : pureOk 1000 (eR170).2.2 (call Tryz.prog (cx []) 20000 (eR170).1 (eR170).2.1 h0) = true := by kernel_rfl
theorem runR171 : pureOk 1000 (eR171).2.2 (call Tryz.prog (cx [eR170]) 20000 (eR171).1 (eR171).2.1 h0) = true := by kernel_rfl
theorem runR172 : pureOk 1000 (eR172).2.2 (call Tryz.prog (cx []) 20000 (eR172).1 (eR172).2.1 h0) = true := by kernel_rfl
theorem runR173 : pureOk 1000 (eR173).2.2 (call Tryz.prog (cx []) 20000 (eR173).1 (eR173).2.1 h0) = true := by kernel_rfl
theorem runR174 : pureOk 1000 (eR174).2.2 (call Tryz.prog (cx [eR170]) 20000 (eR174).1 (eR174).2.1 h0) = true := by kernel_rfl
theorem runR175 : pureOk 1000 (eR175).2.2 (call Tryz.prog (cx [eR170]) 20000 (eR175).1 (eR175).2.1 h0) = true := by kernel_rfl
theorem runR176 : pureOk 1000 (eR176).2.2 (call Tryz.prog (cx [eR170]) 20000 (eR176).1 (eR176).2.1 h0) = true := by kernel_rfl
theorem runR177 : pureOk 1000 (eR177).2.2 (call Tryz.prog (cx [eR170]) 20000 (eR177).1 (eR177).2.1 h0) = true := by kernel_rfl
theorem runR178 : pureOk 1000 (eR178).2.2 (call Tryz.prog (cx [eR170]) 20000 (eR178).1 (eR178).2.1 h0) = true := by kernel_rfl
theorem runR179 : pureOk 1000 (eR179).2.2 (call Tryz.prog (cx [eR170]) 20000 (eR179).1 (eR179).2.1 h0) = true := by kernel_rfl
theorem runR180 : pureOk 1000 (eR180).2.2 (call Tryz.prog (cx [eR170]) 20000 (eR180).1 (eR180).2.1 h0) = true := by kernel_rfl
theorem runR181 : pureOkN 1000 (eR181).2.2 (callAll Tryz.prog (cx [eR59, eR64, eR152, eR157, eR167, eR168, eR169, eR171, eR172, eR173, eR174, eR175, eR176, eR177, eR178, eR179, eR180]) nkR 20000 (eR181).1 (eR181).2.1) = true := by kernel_rfl
theorem runR182 : pureOk 1000 (eR182).2.2 (call Tryz.prog (cx [eR181]) 20000 (eR182).1 (eR182).2.1 h0) = true := by kernel_rfl
theorem runR183 : pureOk 1000 (eR183).2.2 (call Tryz.prog (cx [eR18, eR26, eR149, eR157, eR163, eR165]) 20000 (eR183).1 (eR183).2.1 h0) = true := by kernel_rfl
theorem runR184 : pureOk 1000 (eR184).2.2 (call Tryz.prog (cx [eR31]) 20000 (eR184).1 (eR184).2.1 h0) = true := by kernel_rfl
end Go.Proofs.YtmmjfmbpilfehaaGreatDoor
