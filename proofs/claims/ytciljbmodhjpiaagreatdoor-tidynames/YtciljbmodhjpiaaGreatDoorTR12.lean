/- TidyNames: calls, as the abstract machine reckons them, part 12. -/
import Derived.Test.YtciljbmodhjpiaaGreatDoorTV
namespace Go.Proofs.YtciljbmodhjpiaaGreatDoor
open Go.Ax
theorem runT37 : pureOk 1000 (eT37).2.2 (call Tryz.prog (cx [eT36]) 20000 (eT37).1 (eT37).2.1 h0) = true := by kernel_rfl
theorem runT38 : pureOk 1000 (eT38).2.2 (call Tryz.prog (cx [eT2]) 20000 (eT38).1 (eT38).2.1 h0) = true := by kernel_rfl
theorem runT39 : pureOk 1000 (eT39).2.2 (call Tryz.prog (cx [eT38]) 20000 (eT39).1 (eT39).2.1 h0) = true := by kernel_rfl
theorem runT40 : pureOk 1000 (eT40).2.2 (call Tryz.prog (cx [eT38]) 20000 (eT40).1 (eT40).2.1 h0) = true := by kernel_rfl
theorem runT41 : pureOk 1000 (eT41).2.2 (call Tryz.prog (cx [eT39, eT40]) 20000 (eT41).1 (eT41).2.1 h0) = true := by kernel_rfl
theorem runT42 : pureOk 1000 (eT42).2.2 (call Tryz.prog (cx [eT38]) 20000 (eT42).1 (eT42).2.1 h0) = true := by kernel_rfl
theorem runT43 : pureOk 1000 (eT43).2.2 (call Tryz.prog (cx [eT38, eT39, eT41, eT42]) 20000 (eT43).1 (eT43).2.1 h0) = true := by kernel_rfl
end Go.Proofs.YtciljbmodhjpiaaGreatDoor
