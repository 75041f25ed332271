/- PipeNames: calls, as the abstract machine reckons them, part 10. -/
import Derived.Test.YtklbkcldlcnidaaGreatDoorPV
namespace Go.Proofs.YtklbkcldlcnidaaGreatDoor
open Go.Ax
theorem runP259 : pureOk 1000 (eP259).2.2 (call Tryz.prog (cx [eP258]) 20000 (eP259).1 (eP259).2.1 h0) = true := by kernel_rfl
theorem runP260 : pureOk 1000 (eP260).2.2 (call Tryz.prog (cx [eP52, eP54, eP238, eP248]) 20000 (eP260).1 (eP260).2.1 h0) = true := by kernel_rfl
theorem runP261 : pureOk 1000 (eP261).2.2 (call Tryz.prog (cx [eP260]) 20000 (eP261).1 (eP261).2.1 h0) = true := by kernel_rfl
theorem runP262 : pureOk 1000 (eP262).2.2 (call Tryz.prog (cx [eP199, eP201, eP212, eP224, eP231, eP241, eP248, eP259, eP261]) 20000 (eP262).1 (eP262).2.1 h0) = true := by kernel_rfl
theorem runP263 : pureOk 1000 (eP263).2.2 (call Tryz.prog (cx [eP231]) 20000 (eP263).1 (eP263).2.1 h0) = true := by kernel_rfl
theorem runP264 : pureOk 1000 (eP264).2.2 (call Tryz.prog (cx []) 20000 (eP264).1 (eP264).2.1 h0) = true := by kernel_rfl
theorem runP265 : pureOk 1000 (eP265).2.2 (call Tryz.prog (cx [eP3, eP7, eP17, eP189, eP190, eP264]) 20000 (eP265).1 (eP265).2.1 h0) = true := by kernel_rfl
theorem runP266 : pureOk 1000 (eP266).2.2 (call Tryz.prog (cx [eP265]) 20000 (eP266).1 (eP266).2.1 h0) = true := by kernel_rfl
theorem runP267 : pureOk 1000 (eP267).2.2 (call Tryz.prog (cx []) 20000 (eP267).1 (eP267).2.1 h0) = true := by kernel_rfl
theorem runP268 : pureOk 1000 (eP268).2.2 (call Tryz.prog (cx []) 20000 (eP268).1 (eP268).2.1 h0) = true := by kernel_rfl
theorem runP269 : pureOk 1000 (eP269).2.2 (call Tryz.prog (cx []) 20000 (eP269).1 (eP269).2.1 h0) = true := by kernel_rfl
theorem runP270 : pureOk 1000 (eP270).2.2 (call Tryz.prog (cx [eP269]) 20000 (eP270).1 (eP270).2.1 h0) = true := by kernel_rfl
theorem runP271 : pureOk 1000 (eP271).2.2 (call Tryz.prog (cx [eP270]) 20000 (eP271).1 (eP271).2.1 h0) = true := by kernel_rfl
theorem runP272 : pureOk 1000 (eP272).2.2 (call Tryz.prog (cx []) 20000 (eP272).1 (eP272).2.1 h0) = true := by kernel_rfl
theorem runP273 : pureOk 1000 (eP273).2.2 (call Tryz.prog (cx []) 20000 (eP273).1 (eP273).2.1 h0) = true := by kernel_rfl
end Go.Proofs.YtklbkcldlcnidaaGreatDoor
