/- SolveNames: calls, as the abstract machine reckons them, part 8. -/
import Derived.Test.YtnpknclpnogagaaGreatDoorWV
namespace Go.Proofs.YtnpknclpnogagaaGreatDoor
open Go.Ax
theorem runW206 : pureOk 1000 (eW206).2.2 (call Tryz.prog (cx []) 20000 (eW206).1 (eW206).2.1 h0) = true := by kernel_rfl
theorem runW207 : pureOk 1000 (eW207).2.2 (call Tryz.prog (cx []) 20000 (eW207).1 (eW207).2.1 h0) = true := by kernel_rfl
theorem runW208 : pureOk 1000 (eW208).2.2 (call Tryz.prog (cx []) 20000 (eW208).1 (eW208).2.1 h0) = true := by kernel_rfl
theorem runW209 : pureOk 1000 (eW209).2.2 (call Tryz.prog (cx []) 20000 (eW209).1 (eW209).2.1 h0) = true := by kernel_rfl
theorem runW210 : pureOk 1000 (eW210).2.2 (call Tryz.prog (cx []) 20000 (eW210).1 (eW210).2.1 h0) = true := by kernel_rfl
theorem runW211 : pureOk 1000 (eW211).2.2 (call Tryz.prog (cx []) 20000 (eW211).1 (eW211).2.1 h0) = true := by kernel_rfl
theorem runW212 : pureOk 1000 (eW212).2.2 (call Tryz.prog (cx []) 20000 (eW212).1 (eW212).2.1 h0) = true := by kernel_rfl
theorem runW213 : pureOk 1000 (eW213).2.2 (call Tryz.prog (cx []) 20000 (eW213).1 (eW213).2.1 h0) = true := by kernel_rfl
theorem runW214 : pureOk 1000 (eW214).2.2 (call Tryz.prog (cx []) 20000 (eW214).1 (eW214).2.1 h0) = true := by kernel_rfl
theorem runW215 : pureOk 1000 (eW215).2.2 (call Tryz.prog (cx []) 20000 (eW215).1 (eW215).2.1 h0) = true := by kernel_rfl
theorem runW216 : pureOk 1000 (eW216).2.2 (call Tryz.prog (cx []) 20000 (eW216).1 (eW216).2.1 h0) = true := by kernel_rfl
theorem runW217 : pureOk 1000 (eW217).2.2 (call Tryz.prog (cx []) 20000 (eW217).1 (eW217).2.1 h0) = true := by kernel_rfl
theorem runW218 : pureOk 1000 (eW218).2.2 (call Tryz.prog (cx []) 20000 (eW218).1 (eW218).2.1 h0) = true := by kernel_rfl
theorem runW219 : pureOk 1000 (eW219).2.2 (call Tryz.prog (cx []) 20000 (eW219).1 (eW219).2.1 h0) = true := by kernel_rfl
theorem runW220 : pureOk 1000 (eW220).2.2 (call Tryz.prog (cx []) 20000 (eW220).1 (eW220).2.1 h0) = true := by kernel_rfl
theorem runW221 : pureOk 1000 (eW221).2.2 (call Tryz.prog (cx []) 20000 (eW221).1 (eW221).2.1 h0) = true := by kernel_rfl
end Go.Proofs.YtnpknclpnogagaaGreatDoor
