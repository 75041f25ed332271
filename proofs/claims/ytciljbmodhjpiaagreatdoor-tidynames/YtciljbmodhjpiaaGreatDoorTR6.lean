/- TidyNames: calls, as the abstract machine reckons them, part 6. -/
import Derived.Test.YtciljbmodhjpiaaGreatDoorTV
namespace Go.Proofs.YtciljbmodhjpiaaGreatDoor
open Go.Ax
theorem runT15 : pureOk 1000 (eT15).2.2 (call Tryz.prog (cx [eT2]) 20000 (eT15).1 (eT15).2.1 h0) = true := by kernel_rfl
theorem runT16 : pureOk 1000 (eT16).2.2 (call Tryz.prog (cx [eT15]) 20000 (eT16).1 (eT16).2.1 h0) = true := by kernel_rfl
theorem runT17 : pureOk 1000 (eT17).2.2 (call Tryz.prog (cx [eT15]) 20000 (eT17).1 (eT17).2.1 h0) = true := by kernel_rfl
theorem runT18 : pureOk 1000 (eT18).2.2 (call Tryz.prog (cx [eT16, eT17]) 20000 (eT18).1 (eT18).2.1 h0) = true := by kernel_rfl
theorem runT19 : pureOk 1000 (eT19).2.2 (call Tryz.prog (cx [eT15]) 20000 (eT19).1 (eT19).2.1 h0) = true := by kernel_rfl
theorem runT20 : pureOk 1000 (eT20).2.2 (call Tryz.prog (cx [eT15]) 20000 (eT20).1 (eT20).2.1 h0) = true := by kernel_rfl
theorem runT21 : pureOk 1000 (eT21).2.2 (call Tryz.prog (cx [eT15]) 20000 (eT21).1 (eT21).2.1 h0) = true := by kernel_rfl
theorem runT22 : pureOk 1000 (eT22).2.2 (call Tryz.prog (cx [eT15]) 20000 (eT22).1 (eT22).2.1 h0) = true := by kernel_rfl
theorem runT23 : pureOk 1000 (eT23).2.2 (call Tryz.prog (cx [eT15, eT16, eT18, eT19, eT20, eT21, eT22]) 20000 (eT23).1 (eT23).2.1 h0) = true := by kernel_rfl
end Go.Proofs.YtciljbmodhjpiaaGreatDoor
