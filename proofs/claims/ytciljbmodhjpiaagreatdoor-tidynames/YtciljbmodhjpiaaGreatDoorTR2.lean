/- TidyNames: calls, as the abstract machine reckons them, part 2. -/
import Derived.Test.YtciljbmodhjpiaaGreatDoorTV
namespace Go.Proofs.YtciljbmodhjpiaaGreatDoor
open Go.Ax
theorem runT4 : pureOk 1000 (eT4).2.2 (call Tryz.prog (cx [eT3]) 20000 (eT4).1 (eT4).2.1 h0) = true := by kernel_rfl
theorem runT5 : pureOk 1000 (eT5).2.2 (call Tryz.prog (cx [eT3]) 20000 (eT5).1 (eT5).2.1 h0) = true := by kernel_rfl
theorem runT6 : pureOk 1000 (eT6).2.2 (call Tryz.prog (cx [eT4, eT5]) 20000 (eT6).1 (eT6).2.1 h0) = true := by kernel_rfl
theorem runT7 : pureOk 1000 (eT7).2.2 (call Tryz.prog (cx [eT3]) 20000 (eT7).1 (eT7).2.1 h0) = true := by kernel_rfl
theorem runT8 : pureOk 1000 (eT8).2.2 (call Tryz.prog (cx [eT3, eT4, eT6, eT7]) 20000 (eT8).1 (eT8).2.1 h0) = true := by kernel_rfl
theorem runT9 : pureOk 1000 (eT9).2.2 (call Tryz.prog (cx [eT8]) 20000 (eT9).1 (eT9).2.1 h0) = true := by kernel_rfl
theorem runT10 : pureOk 1000 (eT10).2.2 (call Tryz.prog (cx [eT2]) 20000 (eT10).1 (eT10).2.1 h0) = true := by kernel_rfl
end Go.Proofs.YtciljbmodhjpiaaGreatDoor
