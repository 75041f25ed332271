/- EscapeNames: calls, as the abstract machine reckons them, part 23. -/
import Derived.Test.YtlimihfdpfgedaaGreatDoorEV
namespace Go.Proofs.YtlimihfdpfgedaaGreatDoor
open Go.Ax
theorem runE301 : pureOk 1000 (eE301).2.2 (call Tryz.prog (cx []) 20000 (eE301).1 (eE301).2.1 h0) = true := by kernel_rfl
theorem runE302 : pureOk 1000 (eE302).2.2 (call Tryz.prog (cx []) 20000 (eE302).1 (eE302).2.1 h0) = true := by kernel_rfl
theorem runE303 : pureOk 1000 (eE303).2.2 (call Tryz.prog (cx []) 20000 (eE303).1 (eE303).2.1 h0) = true := by kernel_rfl
theorem runE304 : pureOk 1000 (eE304).2.2 (call Tryz.prog (cx []) 20000 (eE304).1 (eE304).2.1 h0) = true := by kernel_rfl
theorem runE305 : pureOk 1000 (eE305).2.2 (call Tryz.prog (cx []) 20000 (eE305).1 (eE305).2.1 h0) = true := by kernel_rfl
theorem runE306 : pureOk 1000 (eE306).2.2 (call Tryz.prog (cx []) 20000 (eE306).1 (eE306).2.1 h0) = true := by kernel_rfl
theorem runE307 : pureOk 1000 (eE307).2.2 (call Tryz.prog (cx []) 20000 (eE307).1 (eE307).2.1 h0) = true := by kernel_rfl
theorem runE308 : pureOk 1000 (eE308).2.2 (call Tryz.prog (cx []) 20000 (eE308).1 (eE308).2.1 h0) = true := by kernel_rfl
theorem runE309 : pureOk 1000 (eE309).2.2 (call Tryz.prog (cx []) 20000 (eE309).1 (eE309).2.1 h0) = true := by kernel_rfl
theorem runE310 : pureOk 1000 (eE310).2.2 (call Tryz.prog (cx [eE173]) 20000 (eE310).1 (eE310).2.1 h0) = true := by kernel_rfl
theorem runE311 : pureOk 1000 (eE311).2.2 (call Tryz.prog (cx [eE173]) 20000 (eE311).1 (eE311).2.1 h0) = true := by kernel_rfl
theorem runE312 : pureOk 1000 (eE312).2.2 (call Tryz.prog (cx [eE173]) 20000 (eE312).1 (eE312).2.1 h0) = true := by kernel_rfl
theorem runE313 : pureOk 1000 (eE313).2.2 (call Tryz.prog (cx [eE173]) 20000 (eE313).1 (eE313).2.1 h0) = true := by kernel_rfl
end Go.Proofs.YtlimihfdpfgedaaGreatDoor
