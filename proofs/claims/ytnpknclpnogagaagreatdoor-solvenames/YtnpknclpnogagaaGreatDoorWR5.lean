/- SolveNames: calls, as the abstract machine reckons them, part 5. -/
import Derived.Test.YtnpknclpnogagaaGreatDoorWV
namespace Go.Proofs.YtnpknclpnogagaaGreatDoor
open Go.Ax
theorem runW158 : pureOk 1000 (eW158).2.2 (call Tryz.prog (cx []) 20000 (eW158).1 (eW158).2.1 h0) = true := by kernel_rfl
theorem runW159 : pureOk 1000 (eW159).2.2 (call Tryz.prog (cx []) 20000 (eW159).1 (eW159).2.1 h0) = true := by kernel_rfl
theorem runW160 : pureOk 1000 (eW160).2.2 (call Tryz.prog (cx []) 20000 (eW160).1 (eW160).2.1 h0) = true := by kernel_rfl
theorem runW161 : pureOk 1000 (eW161).2.2 (call Tryz.prog (cx []) 20000 (eW161).1 (eW161).2.1 h0) = true := by kernel_rfl
theorem runW162 : pureOk 1000 (eW162).2.2 (call Tryz.prog (cx []) 20000 (eW162).1 (eW162).2.1 h0) = true := by kernel_rfl
theorem runW163 : pureOk 1000 (eW163).2.2 (call Tryz.prog (cx []) 20000 (eW163).1 (eW163).2.1 h0) = true := by kernel_rfl
theorem runW164 : pureOk 1000 (eW164).2.2 (call Tryz.prog (cx []) 20000 (eW164).1 (eW164).2.1 h0) = true := by kernel_rfl
theorem runW165 : pureOk 1000 (eW165).2.2 (call Tryz.prog (cx []) 20000 (eW165).1 (eW165).2.1 h0) = true := by kernel_rfl
theorem runW166 : pureOk 1000 (eW166).2.2 (call Tryz.prog (cx []) 20000 (eW166).1 (eW166).2.1 h0) = true := by kernel_rfl
theorem runW167 : pureOk 1000 (eW167).2.2 (call Tryz.prog (cx []) 20000 (eW167).1 (eW167).2.1 h0) = true := by kernel_rfl
theorem runW168 : pureOk 1000 (eW168).2.2 (call Tryz.prog (cx []) 20000 (eW168).1 (eW168).2.1 h0) = true := by kernel_rfl
theorem runW169 : pureOk 1000 (eW169).2.2 (call Tryz.prog (cx []) 20000 (eW169).1 (eW169).2.1 h0) = true := by kernel_rfl
theorem runW170 : pureOk 1000 (eW170).2.2 (call Tryz.prog (cx []) 20000 (eW170).1 (eW170).2.1 h0) = true := by kernel_rfl
theorem runW171 : pureOk 1000 (eW171).2.2 (call Tryz.prog (cx []) 20000 (eW171).1 (eW171).2.1 h0) = true := by kernel_rfl
theorem runW172 : pureOk 1000 (eW172).2.2 (call Tryz.prog (cx []) 20000 (eW172).1 (eW172).2.1 h0) = true := by kernel_rfl
theorem runW173 : pureOk 1000 (eW173).2.2 (call Tryz.prog (cx []) 20000 (eW173).1 (eW173).2.1 h0) = true := by kernel_rfl
end Go.Proofs.YtnpknclpnogagaaGreatDoor
