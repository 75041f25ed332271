/- SolveNames: calls, as the abstract machine reckons them, part 7. -/
import Derived.Test.YtnpknclpnogagaaGreatDoorWV
namespace Go.Proofs.YtnpknclpnogagaaGreatDoor
open Go.Ax
theorem runW190 : pureOk 1000 (eW190).2.2 (call Tryz.prog (cx []) 20000 (eW190).1 (eW190).2.1 h0) = true := by kernel_rfl
theorem runW191 : pureOk 1000 (eW191).2.2 (call Tryz.prog (cx []) 20000 (eW191).1 (eW191).2.1 h0) = true := by kernel_rfl
theorem runW192 : pureOk 1000 (eW192).2.2 (call Tryz.prog (cx []) 20000 (eW192).1 (eW192).2.1 h0) = true := by kernel_rfl
theorem runW193 : pureOk 1000 (eW193).2.2 (call Tryz.prog (cx []) 20000 (eW193).1 (eW193).2.1 h0) = true := by kernel_rfl
theorem runW194 : pureOk 1000 (eW194).2.2 (call Tryz.prog (cx []) 20000 (eW194).1 (eW194).2.1 h0) = true := by kernel_rfl
theorem runW195 : pureOk 1000 (eW195).2.2 (call Tryz.prog (cx []) 20000 (eW195).1 (eW195).2.1 h0) = true := by kernel_rfl
theorem runW196 : pureOk 1000 (eW196).2.2 (call Tryz.prog (cx []) 20000 (eW196).1 (eW196).2.1 h0) = true := by kernel_rfl
theorem runW197 : pureOk 1000 (eW197).2.2 (call Tryz.prog (cx []) 20000 (eW197).1 (eW197).2.1 h0) = true := by kernel_rfl
theorem runW198 : pureOk 1000 (eW198).2.2 (call Tryz.prog (cx []) 20000 (eW198).1 (eW198).2.1 h0) = true := by kernel_rfl
theorem runW199 : pureOk 1000 (eW199).2.2 (call Tryz.prog (cx []) 20000 (eW199).1 (eW199).2.1 h0) = true := by kernel_rfl
theorem runW200 : pureOk 1000 (eW200).2.2 (call Tryz.prog (cx []) 20000 (eW200).1 (eW200).2.1 h0) = true := by kernel_rfl
theorem runW201 : pureOk 1000 (eW201).2.2 (call Tryz.prog (cx []) 20000 (eW201).1 (eW201).2.1 h0) = true := by kernel_rfl
theorem runW202 : pureOk 1000 (eW202).2.2 (call Tryz.prog (cx []) 20000 (eW202).1 (eW202).2.1 h0) = true := by kernel_rfl
theorem runW203 : pureOk 1000 (eW203).2.2 (call Tryz.prog (cx []) 20000 (eW203).1 (eW203).2.1 h0) = true := by kernel_rfl
theorem runW204 : pureOk 1000 (eW204).2.2 (call Tryz.prog (cx []) 20000 (eW204).1 (eW204).2.1 h0) = true := by kernel_rfl
theorem runW205 : pureOk 1000 (eW205).2.2 (call Tryz.prog (cx []) 20000 (eW205).1 (eW205).2.1 h0) = true := by kernel_rfl
end Go.Proofs.YtnpknclpnogagaaGreatDoor
