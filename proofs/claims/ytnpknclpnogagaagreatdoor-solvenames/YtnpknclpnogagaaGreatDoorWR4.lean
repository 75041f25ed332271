/- SolveNames: calls, as the abstract machine reckons them, part 4. -/
import Derived.Test.YtnpknclpnogagaaGreatDoorWV
namespace Go.Proofs.YtnpknclpnogagaaGreatDoor
open Go.Ax
theorem runW142 : pureOk 1000 (eW142).2.2 (call Tryz.prog (cx []) 20000 (eW142).1 (eW142).2.1 h0) = true := by kernel_rfl
theorem runW143 : pureOk 1000 (eW143).2.2 (call Tryz.prog (cx []) 20000 (eW143).1 (eW143).2.1 h0) = true := by kernel_rfl
theorem runW144 : pureOk 1000 (eW144).2.2 (call Tryz.prog (cx []) 20000 (eW144).1 (eW144).2.1 h0) = true := by kernel_rfl
theorem runW145 : pureOk 1000 (eW145).2.2 (call Tryz.prog (cx []) 20000 (eW145).1 (eW145).2.1 h0) = true := by kernel_rfl
theorem runW146 : pureOk 1000 (eW146).2.2 (call Tryz.prog (cx []) 20000 (eW146).1 (eW146).2.1 h0) = true := by kernel_rfl
theorem runW147 : pureOk 1000 (eW147).2.2 (call Tryz.prog (cx []) 20000 (eW147).1 (eW147).2.1 h0) = true := by kernel_rfl
theorem runW148 : pureOk 1000 (eW148).2.2 (call Tryz.prog (cx []) 20000 (eW148).1 (eW148).2.1 h0) = true := by kernel_rfl
theorem runW149 : pureOk 1000 (eW149).2.2 (call Tryz.prog (cx []) 20000 (eW149).1 (eW149).2.1 h0) = true := by kernel_rfl
theorem runW150 : pureOk 1000 (eW150).2.2 (call Tryz.prog (cx []) 20000 (eW150).1 (eW150).2.1 h0) = true := by kernel_rfl
theorem runW151 : pureOk 1000 (eW151).2.2 (call Tryz.prog (cx []) 20000 (eW151).1 (eW151).2.1 h0) = true := by kernel_rfl
theorem runW152 : pureOk 1000 (eW152).2.2 (call Tryz.prog (cx []) 20000 (eW152).1 (eW152).2.1 h0) = true := by kernel_rfl
theorem runW153 : pureOk 1000 (eW153).2.2 (call Tryz.prog (cx []) 20000 (eW153).1 (eW153).2.1 h0) = true := by kernel_rfl
theorem runW154 : pureOk 1000 (eW154).2.2 (call Tryz.prog (cx []) 20000 (eW154).1 (eW154).2.1 h0) = true := by kernel_rfl
theorem runW155 : pureOk 1000 (eW155).2.2 (call Tryz.prog (cx []) 20000 (eW155).1 (eW155).2.1 h0) = true := by kernel_rfl
theorem runW156 : pureOk 1000 (eW156).2.2 (call Tryz.prog (cx []) 20000 (eW156).1 (eW156).2.1 h0) = true := by kernel_rfl
theorem runW157 : pureOk 1000 (eW157).2.2 (call Tryz.prog (cx []) 20000 (eW157).1 (eW157).2.1 h0) = true := by kernel_rfl
end Go.Proofs.YtnpknclpnogagaaGreatDoor
