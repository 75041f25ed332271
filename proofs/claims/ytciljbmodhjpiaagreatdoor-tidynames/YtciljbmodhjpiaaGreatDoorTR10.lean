/- TidyNames: calls, as the abstract machine reckons them, part 10. -/
import Derived.Test.YtciljbmodhjpiaaGreatDoorTV
namespace Go.Proofs.YtciljbmodhjpiaaGreatDoor
open Go.Ax
theorem runT30 : pureOk 1000 (eT30).2.2 (call Tryz.prog (cx [eT2]) 20000 (eT30).1 (eT30).2.1 h0) = true := by kernel_rfl
theorem runT31 : pureOk 1000 (eT31).2.2 (call Tryz.prog (cx [eT30]) 20000 (eT31).1 (eT31).2.1 h0) = true := by kernel_rfl
theorem runT32 : pureOk 1000 (eT32).2.2 (call Tryz.prog (cx [eT30]) 20000 (eT32).1 (eT32).2.1 h0) = true := by kernel_rfl
theorem runT33 : pureOk 1000 (eT33).2.2 (call Tryz.prog (cx [eT30]) 20000 (eT33).1 (eT33).2.1 h0) = true := by kernel_rfl
theorem runT34 : pureOk 1000 (eT34).2.2 (call Tryz.prog (cx [eT30]) 20000 (eT34).1 (eT34).2.1 h0) = true := by kernel_rfl
theorem runT35 : pureOk 1000 (eT35).2.2 (call Tryz.prog (cx [eT30]) 20000 (eT35).1 (eT35).2.1 h0) = true := by kernel_rfl
end Go.Proofs.YtciljbmodhjpiaaGreatDoor
