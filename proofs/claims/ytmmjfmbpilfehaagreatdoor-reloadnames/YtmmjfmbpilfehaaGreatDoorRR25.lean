/- ReloadNames: calls, as the abstract machine reckons them, part 25. -/
import Derived.Test.YtmmjfmbpilfehaaGreatDoorRV
namespace Go.Proofs.YtmmjfmbpilfehaaGreatDoor
open Go.Ax
theorem runR329 : pureOk 1000 (eR329).2.2 (call Tryz.prog (cx [eR3, eR4, eR6, eR9, eR10, eR11, eR12, eR16, eR17, eR18, eR21, eR25, eR26, eR27, eR28, eR147, eR327, eR328]) 20000 (eR329).1 (eR329).2.1 h0) = true := by kernel_rfl
theorem runR330 : pureOk 1000 (eR330).2.2 (call Tryz.prog (cx [eR31]) 20000 (eR330).1 (eR330).2.1 h0) = true := by kernel_rfl
theorem runR331 : pureOk 1000 (eR331).2.2 (call Tryz.prog (cx [eR330]) 20000 (eR331).1 (eR331).2.1 h0) = true := by kernel_rfl
theorem runR332 : pureOk 1000 (eR332).2.2 (call Tryz.prog (cx [eR331]) 20000 (eR332).1 (eR332).2.1 h0) = true := by kernel_rfl
theorem runR333 : pureOk 1000 (eR333).2.2 (call Tryz.prog (cx [eR331]) 20000 (eR333).1 (eR333).2.1 h0) = true := by kernel_rfl
theorem runR334 : pureOk 1000 (eR334).2.2 (call Tryz.prog (cx [eR332, eR333]) 20000 (eR334).1 (eR334).2.1 h0) = true := by kernel_rfl
theorem runR335 : pureOk 1000 (eR335).2.2 (call Tryz.prog (cx [eR331]) 20000 (eR335).1 (eR335).2.1 h0) = true := by kernel_rfl
theorem runR336 : pureOk 1000 (eR336).2.2 (call Tryz.prog (cx [eR330]) 20000 (eR336).1 (eR336).2.1 h0) = true := by kernel_rfl
theorem runR337 : pureOk 1000 (eR337).2.2 (call Tryz.prog (cx [eR336]) 20000 (eR337).1 (eR337).2.1 h0) = true := by kernel_rfl
theorem runR338 : pureOk 1000 (eR338).2.2 (call Tryz.prog (cx [eR336]) 20000 (eR338).1 (eR338).2.1 h0) = true := by kernel_rfl
theorem runR339 : pureOk 1000 (eR339).2.2 (call Tryz.prog (cx [eR337, eR338]) 20000 (eR339).1 (eR339).2.1 h0) = true := by kernel_rfl
theorem runR340 : pureOk 1000 (eR340).2.2 (call Tryz.prog (cx [eR336]) 20000 (eR340).1 (eR340).2.1 h0) = true := by kernel_rfl
end Go.Proofs.YtmmjfmbpilfehaaGreatDoor
