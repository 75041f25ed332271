/- SolveNames: calls, as the abstract machine reckons them, part 2. -/
import Derived.Test.YtnpknclpnogagaaGreatDoorWV
namespace Go.Proofs.YtnpknclpnogagaaGreatDoor
open Go.Ax
theorem runW110 : pureOk 1000 (eW110).2.2 (call Tryz.prog (cx []) 20000 (eW110).1 (eW110).2.1 h0) = true := by kernel_rfl
theorem runW111 : pureOk 1000 (eW111).2.2 (call Tryz.prog (cx []) 20000 (eW111).1 (eW111).2.1 h0) = true := by kernel_rfl
theorem runW112 : pureOk 1000 (eW112).2.2 (call Tryz.prog (cx []) 20000 (eW112).1 (eW112).2.1 h0) = true := by kernel_rfl
theorem runW113 : pureOk 1000 (eW113).2.2 (call Tryz.prog (cx []) 20000 (eW113).1 (eW113).2.1 h0) = true := by kernel_rfl
theorem runW114 : pureOk 1000 (eW114).2.2 (call Tryz.prog (cx []) 20000 (eW114).1 (eW114).2.1 h0) = true := by kernel_rfl
theorem runW115 : pureOk 1000 (eW115).2.2 (call Tryz.prog (cx []) 20000 (eW115).1 (eW115).2.1 h0) = true := by kernel_rfl
theorem runW116 : pureOk 1000 (eW116).2.2 (call Tryz.prog (cx []) 20000 (eW116).1 (eW116).2.1 h0) = true := by kernel_rfl
theorem runW117 : pureOk 1000 (eW117).2.2 (call Tryz.prog (cx []) 20000 (eW117).1 (eW117).2.1 h0) = true := by kernel_rfl
theorem runW118 : pureOk 1000 (eW118).2.2 (call Tryz.prog (cx []) 20000 (eW118).1 (eW118).2.1 h0) = true := by kernel_rfl
theorem runW119 : pureOk 1000 (eW119).2.2 (call Tryz.prog (cx []) 20000 (eW119).1 (eW119).2.1 h0) = true := by kernel_rfl
theorem runW120 : pureOk 1000 (eW120).2.2 (call Tryz.prog (cx []) 20000 (eW120).1 (eW120).2.1 h0) = true := by kernel_rfl
theorem runW121 : pureOk 1000 (eW121).2.2 (call Tryz.prog (cx []) 20000 (eW121).1 (eW121).2.1 h0) = true := by kernel_rfl
theorem runW122 : pureOk 1000 (eW122).2.2 (call Tryz.prog (cx []) 20000 (eW122).1 (eW122).2.1 h0) = true := by kernel_rfl
theorem runW123 : pureOk 1000 (eW123).2.2 (call Tryz.prog (cx []) 20000 (eW123).1 (eW123).2.1 h0) = true := by kernel_rfl
theorem runW124 : pureOk 1000 (eW124).2.2 (call Tryz.prog (cx []) 20000 (eW124).1 (eW124).2.1 h0) = true := by kernel_rfl
theorem runW125 : pureOk 1000 (eW125).2.2 (call Tryz.prog (cx []) 20000 (eW125).1 (eW125).2.1 h0) = true := by kernel_rfl
end Go.Proofs.YtnpknclpnogagaaGreatDoor
