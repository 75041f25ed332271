/- EscapeNames: calls, as the abstract machine reckons them, part 13. -/
import Derived.Test.YtlimihfdpfgedaaGreatDoorEV
namespace Go.Proofs.YtlimihfdpfgedaaGreatDoor
open Go.Ax
theorem runE221 : pureOk 1000 (eE221).2.2 (call Tryz.prog (cx []) 20000 (eE221).1 (eE221).2.1 h0) = true := by kernel_rfl
theorem runE222 : pureOk 1000 (eE222).2.2 (call Tryz.prog (cx []) 20000 (eE222).1 (eE222).2.1 h0) = true := by kernel_rfl
theorem runE223 : pureOk 1000 (eE223).2.2 (call Tryz.prog (cx []) 20000 (eE223).1 (eE223).2.1 h0) = true := by kernel_rfl
theorem runE224 : pureOk 1000 (eE224).2.2 (call Tryz.prog (cx []) 20000 (eE224).1 (eE224).2.1 h0) = true := by kernel_rfl
theorem runE225 : pureOk 1000 (eE225).2.2 (call Tryz.prog (cx []) 20000 (eE225).1 (eE225).2.1 h0) = true := by kernel_rfl
theorem runE226 : pureOk 1000 (eE226).2.2 (call Tryz.prog (cx []) 20000 (eE226).1 (eE226).2.1 h0) = true := by kernel_rfl
theorem runE227 : pureOk 1000 (eE227).2.2 (call Tryz.prog (cx []) 20000 (eE227).1 (eE227).2.1 h0) = true := by kernel_rfl
theorem runE228 : pureOk 1000 (eE228).2.2 (call Tryz.prog (cx []) 20000 (eE228).1 (eE228).2.1 h0) = true := by kernel_rfl
end Go.Proofs.YtlimihfdpfgedaaGreatDoor
