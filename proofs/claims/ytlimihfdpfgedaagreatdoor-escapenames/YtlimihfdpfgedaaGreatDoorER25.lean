/- EscapeNames: calls, as the abstract machine reckons them, part 25. -/
import Derived.Test.YtlimihfdpfgedaaGreatDoorEV
namespace Go.Proofs.YtlimihfdpfgedaaGreatDoor
open Go.Ax
theorem runE323 : pureOk 1000 (eE323).2.2 (call Tryz.prog (cx []) 20000 (eE323).1 (eE323).2.1 h0) = true := by kernel_rfl
theorem runE324 : pureOk 1000 (eE324).2.2 (call Tryz.prog (cx [eE3, eE4, eE6, eE9, eE10, eE11, eE12, eE13, eE16, eE17, eE18, eE24, eE25, eE111, eE323]) 20000 (eE324).1 (eE324).2.1 h0) = true := by kernel_rfl
theorem runE325 : pureOk 1000 (eE325).2.2 (call Tryz.prog (cx [eE27]) 20000 (eE325).1 (eE325).2.1 h0) = true := by kernel_rfl
theorem runE326 : pureOk 1000 (eE326).2.2 (call Tryz.prog (cx [eE325]) 20000 (eE326).1 (eE326).2.1 h0) = true := by kernel_rfl
theorem runE327 : pureOk 1000 (eE327).2.2 (call Tryz.prog (cx [eE326]) 20000 (eE327).1 (eE327).2.1 h0) = true := by kernel_rfl
theorem runE328 : pureOk 1000 (eE328).2.2 (call Tryz.prog (cx [eE326]) 20000 (eE328).1 (eE328).2.1 h0) = true := by kernel_rfl
theorem runE329 : pureOk 1000 (eE329).2.2 (call Tryz.prog (cx [eE327, eE328]) 20000 (eE329).1 (eE329).2.1 h0) = true := by kernel_rfl
theorem runE330 : pureOk 1000 (eE330).2.2 (call Tryz.prog (cx [eE326]) 20000 (eE330).1 (eE330).2.1 h0) = true := by kernel_rfl
theorem runE331 : pureOk 1000 (eE331).2.2 (call Tryz.prog (cx []) 20000 (eE331).1 (eE331).2.1 h0) = true := by kernel_rfl
theorem runE332 : pureOk 1000 (eE332).2.2 (call Tryz.prog (cx [eE11, eE17, eE24, eE34, eE35, eE36, eE37, eE325, eE327, eE329, eE330, eE331]) 20000 (eE332).1 (eE332).2.1 h0) = true := by kernel_rfl
theorem runE333 : pureOk 1000 (eE333).2.2 (call Tryz.prog (cx [eE332]) 20000 (eE333).1 (eE333).2.1 h0) = true := by kernel_rfl
theorem runE334 : pureOk 1000 (eE334).2.2 (call Tryz.prog (cx []) 20000 (eE334).1 (eE334).2.1 h0) = true := by kernel_rfl
end Go.Proofs.YtlimihfdpfgedaaGreatDoor
