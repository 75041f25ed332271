/- ReloadNames: calls, as the abstract machine reckons them, part 20. -/
import Derived.Test.YtmmjfmbpilfehaaGreatDoorRV
namespace Go.Proofs.YtmmjfmbpilfehaaGreatDoor
open Go.Ax
theorem runR269 : pureOk 1000 (eR269).2.2 (call Tryz.prog (cx [eR268]) 20000 (eR269).1 (eR269).2.1 h0) = true := by kernel_rfl
theorem runR270 : pureOk 1000 (eR270).2.2 (call Tryz.prog (cx [eR269]) 20000 (eR270).1 (eR270).2.1 h0) = true := by kernel_rfl
theorem runR271 : pureOk 1000 (eR271).2.2 (call Tryz.prog (cx [eR269]) 20000 (eR271).1 (eR271).2.1 h0) = true := by kernel_rfl
theorem runR272 : pureOk 1000 (eR272).2.2 (call Tryz.prog (cx [eR270, eR271]) 20000 (eR272).1 (eR272).2.1 h0) = true := by kernel_rfl
theorem runR273 : pureOk 1000 (eR273).2.2 (call Tryz.prog (cx [eR269]) 20000 (eR273).1 (eR273).2.1 h0) = true := by kernel_rfl
theorem runR274 : pureOk 1000 (eR274).2.2 (call Tryz.prog (cx [eR268]) 20000 (eR274).1 (eR274).2.1 h0) = true := by kernel_rfl
theorem runR275 : pureOk 1000 (eR275).2.2 (call Tryz.prog (cx [eR274]) 20000 (eR275).1 (eR275).2.1 h0) = true := by kernel_rfl
theorem runR276 : pureOk 1000 (eR276).2.2 (call Tryz.prog (cx [eR274]) 20000 (eR276).1 (eR276).2.1 h0) = true := by kernel_rfl
theorem runR277 : pureOk 1000 (eR277).2.2 (call Tryz.prog (cx [eR275, eR276]) 20000 (eR277).1 (eR277).2.1 h0) = true := by kernel_rfl
theorem runR278 : pureOk 1000 (eR278).2.2 (call Tryz.prog (cx [eR274]) 20000 (eR278).1 (eR278).2.1 h0) = true := by kernel_rfl
theorem runR279 : pureOk 1000 (eR279).2.2 (call Tryz.prog (cx []) 20000 (eR279).1 (eR279).2.1 h0) = true := by kernel_rfl
theorem runR280 : pureOk 1000 (eR280).2.2 (call Tryz.prog (cx []) 20000 (eR280).1 (eR280).2.1 h0) = true := by kernel_rfl
theorem runR281 : pureOk 1000 (eR281).2.2 (call Tryz.prog (cx [eR11, eR17, eR18, eR19, eR25, eR38, eR39, eR52, eR148, eR237, eR238, eR239, eR268, eR270, eR272, eR273, eR275, eR277, eR278, eR279, eR280]) 20000 (eR281).1 (eR281).2.1 h0) = true := by kernel_rfl
theorem runR282 : pureOk 1000 (eR282).2.2 (call Tryz.prog (cx [eR281]) 20000 (eR282).1 (eR282).2.1 h0) = true := by kernel_rfl
theorem runR283 : pureOk 1000 (eR283).2.2 (call Tryz.prog (cx [eR59, eR269, eR274, eR282]) 20000 (eR283).1 (eR283).2.1 h0) = true := by kernel_rfl
theorem runR284 : pureOkN 1000 (eR284).2.2 (callAll Tryz.prog (cx [eR59, eR60, eR63, eR64, eR65, eR66, eR67, eR68, eR72, eR73, eR74, eR75, eR76, eR77, eR78, eR79, eR80, eR172, eR173, eR269, eR274, eR282, eR283]) nkR 20000 (eR284).1 (eR284).2.1) = true := by kernel_rfl
theorem runR285 : pureOk 1000 (eR285).2.2 (call Tryz.prog (cx [eR59, eR269, eR274, eR282]) 20000 (eR285).1 (eR285).2.1 h0) = true := by kernel_rfl
theorem runR286 : pureOk 1000 (eR286).2.2 (call Tryz.prog (cx []) 20000 (eR286).1 (eR286).2.1 h0) = true := by kernel_rfl
end Go.Proofs.YtmmjfmbpilfehaaGreatDoor
