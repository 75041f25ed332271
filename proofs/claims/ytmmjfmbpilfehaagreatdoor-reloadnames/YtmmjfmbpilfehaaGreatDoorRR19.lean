/- ReloadNames: calls, as the abstract machine reckons them, part 19. -/
import Derived.Test.YtmmjfmbpilfehaaGreatDoorRV
namespace Go.Proofs.YtmmjfmbpilfehaaGreatDoor
open Go.Ax
theorem runR255 : pureOk 1000 (eR255).2.2 (call Tryz.prog (cx [eR247]) 20000 (eR255).1 (eR255).2.1 h0) = true := by kernel_rfl
theorem runR256 : pureOk 1000 (eR256).2.2 (call Tryz.prog (cx [eR247]) 20000 (eR256).1 (eR256).2.1 h0) = true := by kernel_rfl
theorem runR257 : pureOk 1000 (eR257).2.2 (call Tryz.prog (cx [eR247]) 20000 (eR257).1 (eR257).2.1 h0) = true := by kernel_rfl
theorem runR258 : pureOk 1000 (eR258).2.2 (call Tryz.prog (cx [eR247]) 20000 (eR258).1 (eR258).2.1 h0) = true := by kernel_rfl
theorem runR259 : pureOk 1000 (eR259).2.2 (call Tryz.prog (cx [eR247]) 20000 (eR259).1 (eR259).2.1 h0) = true := by kernel_rfl
theorem runR260 : pureOk 1000 (eR260).2.2 (call Tryz.prog (cx [eR247]) 20000 (eR260).1 (eR260).2.1 h0) = true := by kernel_rfl
theorem runR261 : pureOkN 1000 (eR261).2.2 (callAll Tryz.prog (cx [eR59, eR64, eR65, eR66, eR172, eR173, eR227, eR232, eR244, eR245, eR246, eR248, eR249, eR250, eR251, eR252, eR253, eR254, eR255, eR256, eR257, eR258, eR259, eR260]) nkR 20000 (eR261).1 (eR261).2.1) = true := by kernel_rfl
theorem runR262 : pureOk 1000 (eR262).2.2 (call Tryz.prog (cx [eR261]) 20000 (eR262).1 (eR262).2.1 h0) = true := by kernel_rfl
theorem runR263 : pureOk 1000 (eR263).2.2 (call Tryz.prog (cx [eR12, eR18, eR20, eR26, eR149, eR165, eR232, eR241]) 20000 (eR263).1 (eR263).2.1 h0) = true := by kernel_rfl
theorem runR264 : pureOk 1000 (eR264).2.2 (call Tryz.prog (cx [eR31]) 20000 (eR264).1 (eR264).2.1 h0) = true := by kernel_rfl
theorem runR265 : pureOk 1000 (eR265).2.2 (call Tryz.prog (cx [eR264]) 20000 (eR265).1 (eR265).2.1 h0) = true := by kernel_rfl
theorem runR266 : pureOk 1000 (eR266).2.2 (call Tryz.prog (cx []) 20000 (eR266).1 (eR266).2.1 h0) = true := by kernel_rfl
theorem runR267 : pureOk 1000 (eR267).2.2 (call Tryz.prog (cx [eR12, eR18, eR20, eR26, eR52, eR149, eR165, eR237, eR238, eR239, eR241, eR265, eR266]) 20000 (eR267).1 (eR267).2.1 h0) = true := by kernel_rfl
theorem runR268 : pureOk 1000 (eR268).2.2 (call Tryz.prog (cx [eR31]) 20000 (eR268).1 (eR268).2.1 h0) = true := by kernel_rfl
end Go.Proofs.YtmmjfmbpilfehaaGreatDoor
