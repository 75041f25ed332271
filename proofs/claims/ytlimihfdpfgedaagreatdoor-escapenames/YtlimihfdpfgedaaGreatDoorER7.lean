/- EscapeNames: calls, as the abstract machine reckons them, part 7. -/
import Derived.Test.YtlimihfdpfgedaaGreatDoorEV
namespace Go.Proofs.YtlimihfdpfgedaaGreatDoor
open Go.Ax
theorem runE144 : pureOk 1000 (eE144).2.2 (call Tryz.prog (cx []) 20000 (eE144).1 (eE144).2.1 h0) = true := by kernel_rfl
theorem runE145 : pureOk 1000 (eE145).2.2 (call Tryz.prog (cx []) 20000 (eE145).1 (eE145).2.1 h0) = true := by kernel_rfl
theorem runE146 : pureOk 1000 (eE146).2.2 (call Tryz.prog (cx []) 20000 (eE146).1 (eE146).2.1 h0) = true := by kernel_rfl
theorem runE147 : pureOk 1000 (eE147).2.2 (call Tryz.prog (cx [eE5]) 20000 (eE147).1 (eE147).2.1 h0) = true := by kernel_rfl
theorem runE148 : pureOk 1000 (eE148).2.2 (call Tryz.prog (cx []) 20000 (eE148).1 (eE148).2.1 h0) = true := by kernel_rfl
theorem runE149 : pureOk 1000 (eE149).2.2 (call Tryz.prog (cx [eE148]) 20000 (eE149).1 (eE149).2.1 h0) = true := by kernel_rfl
theorem runE150 : pureOk 1000 (eE150).2.2 (call Tryz.prog (cx [eE149]) 20000 (eE150).1 (eE150).2.1 h0) = true := by kernel_rfl
theorem runE151 : pureOk 1000 (eE151).2.2 (call Tryz.prog (cx [eE22]) 20000 (eE151).1 (eE151).2.1 h0) = true := by kernel_rfl
end Go.Proofs.YtlimihfdpfgedaaGreatDoor
