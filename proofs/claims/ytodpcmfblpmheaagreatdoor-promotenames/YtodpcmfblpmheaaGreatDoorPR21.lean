/- PromoteNames: calls, as the abstract machine reckons them, part 21. -/
import Derived.Test.YtodpcmfblpmheaaGreatDoorPV
namespace Go.Proofs.YtodpcmfblpmheaaGreatDoor
open Go.Ax
theorem runP270 : pureOk 1000 (eP270).2.2 (call Tryz.prog (cx [eP204]) 20000 (eP270).1 (eP270).2.1 h0) = true := by kernel_rfl
theorem runP271 : pureOk 1000 (eP271).2.2 (call Tryz.prog (cx [eP204]) 20000 (eP271).1 (eP271).2.1 h0) = true := by kernel_rfl
theorem runP272 : pureOk 1000 (eP272).2.2 (call Tryz.prog (cx []) 20000 (eP272).1 (eP272).2.1 h0) = true := by kernel_rfl
theorem runP273 : pureOk 1000 (eP273).2.2 (call Tryz.prog (cx []) 20000 (eP273).1 (eP273).2.1 h0) = true := by kernel_rfl
theorem runP274 : pureOk 1000 (eP274).2.2 (call Tryz.prog (cx []) 20000 (eP274).1 (eP274).2.1 h0) = true := by kernel_rfl
theorem runP275 : pureOk 1000 (eP275).2.2 (call Tryz.prog (cx [eP204]) 20000 (eP275).1 (eP275).2.1 h0) = true := by kernel_rfl
theorem runP276 : pureOk 1000 (eP276).2.2 (call Tryz.prog (cx []) 20000 (eP276).1 (eP276).2.1 h0) = true := by kernel_rfl
theorem runP277 : pureOk 1000 (eP277).2.2 (call Tryz.prog (cx []) 20000 (eP277).1 (eP277).2.1 h0) = true := by kernel_rfl
theorem runP278 : pureOk 1000 (eP278).2.2 (call Tryz.prog (cx []) 20000 (eP278).1 (eP278).2.1 h0) = true := by kernel_rfl
theorem runP279 : pureOk 1000 (eP279).2.2 (call Tryz.prog (cx []) 20000 (eP279).1 (eP279).2.1 h0) = true := by kernel_rfl
theorem runP280 : pureOk 1000 (eP280).2.2 (call Tryz.prog (cx [eP204]) 20000 (eP280).1 (eP280).2.1 h0) = true := by kernel_rfl
theorem runP281 : pureOk 1000 (eP281).2.2 (call Tryz.prog (cx []) 20000 (eP281).1 (eP281).2.1 h0) = true := by kernel_rfl
theorem runP282 : pureOk 1000 (eP282).2.2 (call Tryz.prog (cx []) 20000 (eP282).1 (eP282).2.1 h0) = true := by kernel_rfl
theorem runP283 : pureOk 1000 (eP283).2.2 (call Tryz.prog (cx []) 20000 (eP283).1 (eP283).2.1 h0) = true := by kernel_rfl
theorem runP284 : pureOk 1000 (eP284).2.2 (call Tryz.prog (cx []) 20000 (eP284).1 (eP284).2.1 h0) = true := by kernel_rfl
theorem runP285 : pureOk 1000 (eP285).2.2 (call Tryz.prog (cx [eP204]) 20000 (eP285).1 (eP285).2.1 h0) = true := by kernel_rfl
theorem runP286 : pureOk 1000 (eP286).2.2 (call Tryz.prog (cx []) 20000 (eP286).1 (eP286).2.1 h0) = true := by kernel_rfl
theorem runP287 : pureOk 1000 (eP287).2.2 (call Tryz.prog (cx []) 20000 (eP287).1 (eP287).2.1 h0) = true := by kernel_rfl
theorem runP288 : pureOk 1000 (eP288).2.2 (call Tryz.prog (cx [eP204]) 20000 (eP288).1 (eP288).2.1 h0) = true := by kernel_rfl
theorem runP289 : pureOk 1000 (eP289).2.2 (call Tryz.prog (cx []) 20000 (eP289).1 (eP289).2.1 h0) = true := by kernel_rfl
theorem runP290 : pureOk 1000 (eP290).2.2 (call Tryz.prog (cx []) 20000 (eP290).1 (eP290).2.1 h0) = true := by kernel_rfl
theorem runP291 : pureOk 1000 (eP291).2.2 (call Tryz.prog (cx [eP205]) 20000 (eP291).1 (eP291).2.1 h0) = true := by kernel_rfl
theorem runP292 : pureOk 1000 (eP292).2.2 (call Tryz.prog (cx []) 20000 (eP292).1 (eP292).2.1 h0) = true := by kernel_rfl
theorem runP293 : pureOk 1000 (eP293).2.2 (call Tryz.prog (cx []) 20000 (eP293).1 (eP293).2.1 h0) = true := by kernel_rfl
theorem runP294 : pureOk 1000 (eP294).2.2 (call Tryz.prog (cx []) 20000 (eP294).1 (eP294).2.1 h0) = true := by kernel_rfl
theorem runP295 : pureOk 1000 (eP295).2.2 (call Tryz.prog (cx []) 20000 (eP295).1 (eP295).2.1 h0) = true := by kernel_rfl
theorem runP296 : pureOk 1000 (eP296).2.2 (call Tryz.prog (cx []) 20000 (eP296).1 (eP296).2.1 h0) = true := by kernel_rfl
theorem runP297 : pureOk 1000 (eP297).2.2 (call Tryz.prog (cx []) 20000 (eP297).1 (eP297).2.1 h0) = true := by kernel_rfl
theorem runP298 : pureOk 1000 (eP298).2.2 (call Tryz.prog (cx []) 20000 (eP298).1 (eP298).2.1 h0) = true := by kernel_rfl
theorem runP299 : pureOk 1000 (eP299).2.2 (call Tryz.prog (cx []) 20000 (eP299).1 (eP299).2.1 h0) = true := by kernel_rfl
theorem runP300 : pureOk 1000 (eP300).2.2 (call Tryz.prog (cx []) 20000 (eP300).1 (eP300).2.1 h0) = true := by kernel_rfl
theorem runP301 : pureOk 1000 (eP301).2.2 (call Tryz.prog (cx []) 20000 (eP301).1 (eP301).2.1 h0) = true := by kernel_rfl
theorem runP302 : pureOk 1000 (eP302).2.2 (call Tryz.prog (cx []) 20000 (eP302).1 (eP302).2.1 h0) = true := by kernel_rfl
theorem runP303 : pureOk 1000 (eP303).2.2 (call Tryz.prog (cx []) 20000 (eP303).1 (eP303).2.1 h0) = true := by kernel_rfl
theorem runP304 : pureOk 1000 (eP304).2.2 (call Tryz.prog (cx []) 20000 (eP304).1 (eP304).2.1 h0) = true := by kernel_rfl
theorem runP305 : pureOk 1000 (eP305).2.2 (call Tryz.prog (cx []) 20000 (eP305).1 (eP305).2.1 h0) = true := by kernel_rfl
theorem runP306 : pureOk 1000 (eP306).2.2 (call Tryz.prog (cx []) 20000 (eP306).1 (eP306).2.1 h0) = true := by kernel_rfl
theorem runP307 : pureOk 1000 (eP307).2.2 (call Tryz.prog (cx []) 20000 (eP307).1 (eP307).2.1 h0) = true := by kernel_rfl
end Go.Proofs.YtodpcmfblpmheaaGreatDoor
