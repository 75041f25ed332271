/- PipeNames: calls, as the abstract machine reckons them, part 4. -/
import Derived.Test.YtklbkcldlcnidaaGreatDoorPV
namespace Go.Proofs.YtklbkcldlcnidaaGreatDoor
open Go.Ax
theorem runP119 : pureOk 1000 (eP119).2.2 (call Tryz.prog (cx [eP54]) 20000 (eP119).1 (eP119).2.1 h0) = true := by kernel_rfl
theorem runP120 : pureOk 1000 (eP120).2.2 (call Tryz.prog (cx [eP86]) 20000 (eP120).1 (eP120).2.1 h0) = true := by kernel_rfl
theorem runP121 : pureOk 1000 (eP121).2.2 (call Tryz.prog (cx [eP88, eP89, eP120]) 20000 (eP121).1 (eP121).2.1 h0) = true := by kernel_rfl
theorem runP122 : pureOk 1000 (eP122).2.2 (call Tryz.prog (cx [eP9, eP19, eP21, eP26, eP28, eP46, eP54, eP87, eP115]) 20000 (eP122).1 (eP122).2.1 h0) = true := by kernel_rfl
theorem runP123 : pureOk 1000 (eP123).2.2 (call Tryz.prog (cx [eP34]) 20000 (eP123).1 (eP123).2.1 h0) = true := by kernel_rfl
theorem runP124 : pureOk 1000 (eP124).2.2 (call Tryz.prog (cx [eP123]) 20000 (eP124).1 (eP124).2.1 h0) = true := by kernel_rfl
theorem runP125 : pureOk 1000 (eP125).2.2 (call Tryz.prog (cx []) 20000 (eP125).1 (eP125).2.1 h0) = true := by kernel_rfl
theorem runP126 : pureOk 1000 (eP126).2.2 (call Tryz.prog (cx []) 20000 (eP126).1 (eP126).2.1 h0) = true := by kernel_rfl
end Go.Proofs.YtklbkcldlcnidaaGreatDoor
