/- SolveNames: calls, as the abstract machine reckons them, part 6. -/
import Derived.Test.YtnpknclpnogagaaGreatDoorWV
namespace Go.Proofs.YtnpknclpnogagaaGreatDoor
open Go.Ax
theorem runW174 : pureOk 1000 (eW174).2.2 (call Tryz.prog (cx []) 20000 (eW174).1 (eW174).2.1 h0) = true := by kernel_rfl
theorem runW175 : pureOk 1000 (eW175).2.2 (call Tryz.prog (cx []) 20000 (eW175).1 (eW175).2.1 h0) = true := by kernel_rfl
theorem runW176 : pureOk 1000 (eW176).2.2 (call Tryz.prog (cx []) 20000 (eW176).1 (eW176).2.1 h0) = true := by kernel_rfl
theorem runW177 : pureOk 1000 (eW177).2.2 (call Tryz.prog (cx []) 20000 (eW177).1 (eW177).2.1 h0) = true := by kernel_rfl
theorem runW178 : pureOk 1000 (eW178).2.2 (call Tryz.prog (cx []) 20000 (eW178).1 (eW178).2.1 h0) = true := by kernel_rfl
theorem runW179 : pureOk 1000 (eW179).2.2 (call Tryz.prog (cx []) 20000 (eW179).1 (eW179).2.1 h0) = true := by kernel_rfl
theorem runW180 : pureOk 1000 (eW180).2.2 (call Tryz.prog (cx []) 20000 (eW180).1 (eW180).2.1 h0) = true := by kernel_rfl
theorem runW181 : pureOk 1000 (eW181).2.2 (call Tryz.prog (cx []) 20000 (eW181).1 (eW181).2.1 h0) = true := by kernel_rfl
theorem runW182 : pureOk 1000 (eW182).2.2 (call Tryz.prog (cx []) 20000 (eW182).1 (eW182).2.1 h0) = true := by kernel_rfl
theorem runW183 : pureOk 1000 (eW183).2.2 (call Tryz.prog (cx []) 20000 (eW183).1 (eW183).2.1 h0) = true := by kernel_rfl
theorem runW184 : pureOk 1000 (eW184).2.2 (call Tryz.prog (cx []) 20000 (eW184).1 (eW184).2.1 h0) = true := by kernel_rfl
theorem runW185 : pureOk 1000 (eW185).2.2 (call Tryz.prog (cx []) 20000 (eW185).1 (eW185).2.1 h0) = true := by kernel_rfl
theorem runW186 : pureOk 1000 (eW186).2.2 (call Tryz.prog (cx []) 20000 (eW186).1 (eW186).2.1 h0) = true := by kernel_rfl
theorem runW187 : pureOk 1000 (eW187).2.2 (call Tryz.prog (cx []) 20000 (eW187).1 (eW187).2.1 h0) = true := by kernel_rfl
theorem runW188 : pureOk 1000 (eW188).2.2 (call Tryz.prog (cx []) 20000 (eW188).1 (eW188).2.1 h0) = true := by kernel_rfl
theorem runW189 : pureOk 1000 (eW189).2.2 (call Tryz.prog (cx []) 20000 (eW189).1 (eW189).2.1 h0) = true := by kernel_rfl
end Go.Proofs.YtnpknclpnogagaaGreatDoor
