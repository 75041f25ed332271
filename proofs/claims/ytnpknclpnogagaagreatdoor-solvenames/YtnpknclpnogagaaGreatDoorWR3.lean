/- SolveNames: calls, as the abstract machine reckons them, part 3. -/
import Derived.Test.YtnpknclpnogagaaGreatDoorWV
namespace Go.Proofs.YtnpknclpnogagaaGreatDoor
open Go.Ax
theorem runW126 : pureOk 1000 (eW126).2.2 (call Tryz.prog (cx []) 20000 (eW126).1 (eW126).2.1 h0) = true := by kernel_rfl
theorem runW127 : pureOk 1000 (eW127).2.2 (call Tryz.prog (cx []) 20000 (eW127).1 (eW127).2.1 h0) = true := by kernel_rfl
theorem runW128 : pureOk 1000 (eW128).2.2 (call Tryz.prog (cx []) 20000 (eW128).1 (eW128).2.1 h0) = true := by kernel_rfl
theorem runW129 : pureOk 1000 (eW129).2.2 (call Tryz.prog (cx []) 20000 (eW129).1 (eW129).2.1 h0) = true := by kernel_rfl
theorem runW130 : pureOk 1000 (eW130).2.2 (call Tryz.prog (cx []) 20000 (eW130).1 (eW130).2.1 h0) = true := by kernel_rfl
theorem runW131 : pureOk 1000 (eW131).2.2 (call Tryz.prog (cx []) 20000 (eW131).1 (eW131).2.1 h0) = true := by kernel_rfl
theorem runW132 : pureOk 1000 (eW132).2.2 (call Tryz.prog (cx []) 20000 (eW132).1 (eW132).2.1 h0) = true := by kernel_rfl
theorem runW133 : pureOk 1000 (eW133).2.2 (call Tryz.prog (cx []) 20000 (eW133).1 (eW133).2.1 h0) = true := by kernel_rfl
theorem runW134 : pureOk 1000 (eW134).2.2 (call Tryz.prog (cx []) 20000 (eW134).1 (eW134).2.1 h0) = true := by kernel_rfl
theorem runW135 : pureOk 1000 (eW135).2.2 (call Tryz.prog (cx []) 20000 (eW135).1 (eW135).2.1 h0) = true := by kernel_rfl
theorem runW136 : pureOk 1000 (eW136).2.2 (call Tryz.prog (cx []) 20000 (eW136).1 (eW136).2.1 h0) = true := by kernel_rfl
theorem runW137 : pureOk 1000 (eW137).2.2 (call Tryz.prog (cx []) 20000 (eW137).1 (eW137).2.1 h0) = true := by kernel_rfl
theorem runW138 : pureOk 1000 (eW138).2.2 (call Tryz.prog (cx []) 20000 (eW138).1 (eW138).2.1 h0) = true := by kernel_rfl
theorem runW139 : pureOk 1000 (eW139).2.2 (call Tryz.prog (cx []) 20000 (eW139).1 (eW139).2.1 h0) = true := by kernel_rfl
theorem runW140 : pureOk 1000 (eW140).2.2 (call Tryz.prog (cx []) 20000 (eW140).1 (eW140).2.1 h0) = true := by kernel_rfl
theorem runW141 : pureOk 1000 (eW141).2.2 (call Tryz.prog (cx []) 20000 (eW141).1 (eW141).2.1 h0) = true := by kernel_rfl
end Go.Proofs.YtnpknclpnogagaaGreatDoor
