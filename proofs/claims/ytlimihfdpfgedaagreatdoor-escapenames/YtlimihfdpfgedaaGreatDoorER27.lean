/- EscapeNames: calls, as the abstract machine reckons them, part 27. -/
import Derived.Test.YtlimihfdpfgedaaGreatDoorEV
namespace Go.Proofs.YtlimihfdpfgedaaGreatDoor
open Go.Ax
theorem runE353 : pureOk 1000 (eE353).2.2 (call Tryz.prog (cx []) 20000 (eE353).1 (eE353).2.1 h0) = true := by kernel_rfl
theorem runE354 : pureOk 1000 (eE354).2.2 (call Tryz.prog (cx [eE3, eE4, eE6, eE9, eE10, eE11, eE12, eE13, eE16, eE17, eE18, eE23, eE24, eE25, eE79, eE80, eE106, eE107, eE111, eE147, eE151, eE353]) 20000 (eE354).1 (eE354).2.1 h0) = true := by kernel_rfl
end Go.Proofs.YtlimihfdpfgedaaGreatDoor
