/- ReloadNames: calls, as the abstract machine reckons them, part 18. -/
import Derived.Test.YtmmjfmbpilfehaaGreatDoorRV
namespace Go.Proofs.YtmmjfmbpilfehaaGreatDoor
open Go.Ax
theorem runR232 : pureOk 1000 (eR232).2.2 (call Tryz.prog (cx [eR226]) 20000 (eR232).1 (eR232).2.1 h0) = true := by kernel_rfl
theorem runR233 : pureOk 1000 (eR233).2.2 (call Tryz.prog (cx [eR232]) 20000 (eR233).1 (eR233).2.1 h0) = true := by kernel_rfl
theorem runR234 : pureOk 1000 (eR234).2.2 (call Tryz.prog (cx [eR232]) 20000 (eR234).1 (eR234).2.1 h0) = true := by kernel_rfl
theorem runR235 : pureOk 1000 (eR235).2.2 (call Tryz.prog (cx [eR233, eR234]) 20000 (eR235).1 (eR235).2.1 h0) = true := by kernel_rfl
theorem runR236 : pureOk 1000 (eR236).2.2 (call Tryz.prog (cx [eR232]) 20000 (eR236).1 (eR236).2.1 h0) = true := by kernel_rfl
theorem runR237 : pureOk 1000 (eR237).2.2 (call Tryz.prog (cx []) 20000 (eR237).1 (eR237).2.1 h0) = true := by kernel_rfl
theorem runR238 : pureOk 1000 (eR238).2.2 (call Tryz.prog (cx []) 20000 (eR238).1 (eR238).2.1 h0) = true := by kernel_rfl
theorem runR239 : pureOk 1000 (eR239).2.2 (call Tryz.prog (cx []) 20000 (eR239).1 (eR239).2.1 h0) = true := by kernel_rfl
theorem runR240 : pureOk 1000 (eR240).2.2 (call Tryz.prog (cx []) 20000 (eR240).1 (eR240).2.1 h0) = true := by kernel_rfl
theorem runR241 : pureOk 1000 (eR241).2.2 (call Tryz.prog (cx []) 20000 (eR241).1 (eR241).2.1 h0) = true := by kernel_rfl
theorem runR242 : pureOk 1000 (eR242).2.2 (call Tryz.prog (cx [eR11, eR17, eR18, eR19, eR25, eR38, eR39, eR52, eR148, eR226, eR228, eR230, eR231, eR233, eR235, eR236, eR237, eR238, eR239, eR240, eR241]) 20000 (eR242).1 (eR242).2.1 h0) = true := by kernel_rfl
theorem runR243 : pureOk 1000 (eR243).2.2 (call Tryz.prog (cx [eR165]) 20000 (eR243).1 (eR243).2.1 h0) = true := by kernel_rfl
theorem runR244 : pureOk 1000 (eR244).2.2 (call Tryz.prog (cx [eR242]) 20000 (eR244).1 (eR244).2.1 h0) = true := by kernel_rfl
theorem runR245 : pureOk 1000 (eR245).2.2 (call Tryz.prog (cx []) 20000 (eR245).1 (eR245).2.1 h0) = true := by kernel_rfl
theorem runR246 : pureOk 1000 (eR246).2.2 (call Tryz.prog (cx [eR59, eR227, eR232, eR244]) 20000 (eR246).1 (eR246).2.1 h0) = true := by kernel_rfl
theorem runR247 : pureOk 1000 (eR247).2.2 (call Tryz.prog (cx []) 20000 (eR247).1 (eR247).2.1 h0) = true := by kernel_rfl
theorem runR248 : pureOk 1000 (eR248).2.2 (call Tryz.prog (cx [eR247]) 20000 (eR248).1 (eR248).2.1 h0) = true := by kernel_rfl
theorem runR249 : pureOk 1000 (eR249).2.2 (call Tryz.prog (cx [eR247]) 20000 (eR249).1 (eR249).2.1 h0) = true := by kernel_rfl
theorem runR250 : pureOk 1000 (eR250).2.2 (call Tryz.prog (cx [eR247]) 20000 (eR250).1 (eR250).2.1 h0) = true := by kernel_rfl
theorem runR251 : pureOk 1000 (eR251).2.2 (call Tryz.prog (cx [eR247]) 20000 (eR251).1 (eR251).2.1 h0) = true := by kernel_rfl
theorem runR252 : pureOk 1000 (eR252).2.2 (call Tryz.prog (cx [eR247]) 20000 (eR252).1 (eR252).2.1 h0) = true := by kernel_rfl
theorem runR253 : pureOk 1000 (eR253).2.2 (call Tryz.prog (cx [eR247]) 20000 (eR253).1 (eR253).2.1 h0) = true := by kernel_rfl
theorem runR254 : pureOk 1000 (eR254).2.2 (call Tryz.prog (cx [eR247]) 20000 (eR254).1 (eR254).2.1 h0) = true := by kernel_rfl
end Go.Proofs.YtmmjfmbpilfehaaGreatDoor
