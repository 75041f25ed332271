/- EscapeNames: calls, as the abstract machine reckons them, part 11. -/
import Derived.Test.YtlimihfdpfgedaaGreatDoorEV
namespace Go.Proofs.YtlimihfdpfgedaaGreatDoor
open Go.Ax
theorem runE205 : pureOk 1000 (eE205).2.2 (call Tryz.prog (cx []) 20000 (eE205).1 (eE205).2.1 h0) = true := by kernel_rfl
theorem runE206 : pureOk 1000 (eE206).2.2 (call Tryz.prog (cx []) 20000 (eE206).1 (eE206).2.1 h0) = true := by kernel_rfl
theorem runE207 : pureOk 1000 (eE207).2.2 (call Tryz.prog (cx []) 20000 (eE207).1 (eE207).2.1 h0) = true := by kernel_rfl
theorem runE208 : pureOk 1000 (eE208).2.2 (call Tryz.prog (cx []) 20000 (eE208).1 (eE208).2.1 h0) = true := by kernel_rfl
theorem runE209 : pureOk 1000 (eE209).2.2 (call Tryz.prog (cx []) 20000 (eE209).1 (eE209).2.1 h0) = true := by kernel_rfl
theorem runE210 : pureOk 1000 (eE210).2.2 (call Tryz.prog (cx []) 20000 (eE210).1 (eE210).2.1 h0) = true := by kernel_rfl
theorem runE211 : pureOk 1000 (eE211).2.2 (call Tryz.prog (cx []) 20000 (eE211).1 (eE211).2.1 h0) = true := by kernel_rfl
theorem runE212 : pureOk 1000 (eE212).2.2 (call Tryz.prog (cx []) 20000 (eE212).1 (eE212).2.1 h0) = true := by kernel_rfl
end Go.Proofs.YtlimihfdpfgedaaGreatDoor
