/- StepNames: calls, as the abstract machine reckons them, part 12. -/
import Derived.Test.YtciljbmodhjpiaaGreatDoorSV
namespace Go.Proofs.YtciljbmodhjpiaaGreatDoor
open Go.Ax
theorem runS58 : pureOk 1000 (eS58).2.2 (call Tryz.prog (cx [eS57]) 20000 (eS58).1 (eS58).2.1 h0) = true := by kernel_rfl
theorem runS59 : pureOk 1000 (eS59).2.2 (call Tryz.prog (cx [eS2]) 20000 (eS59).1 (eS59).2.1 h0) = true := by kernel_rfl
theorem runS60 : pureOk 1000 (eS60).2.2 (call Tryz.prog (cx [eS59]) 20000 (eS60).1 (eS60).2.1 h0) = true := by kernel_rfl
theorem runS61 : pureOk 1000 (eS61).2.2 (call Tryz.prog (cx [eS59]) 20000 (eS61).1 (eS61).2.1 h0) = true := by kernel_rfl
theorem runS62 : pureOk 1000 (eS62).2.2 (call Tryz.prog (cx [eS60, eS61]) 20000 (eS62).1 (eS62).2.1 h0) = true := by kernel_rfl
theorem runS63 : pureOk 1000 (eS63).2.2 (call Tryz.prog (cx [eS59]) 20000 (eS63).1 (eS63).2.1 h0) = true := by kernel_rfl
theorem runS64 : pureOk 1000 (eS64).2.2 (call Tryz.prog (cx [eS59]) 20000 (eS64).1 (eS64).2.1 h0) = true := by kernel_rfl
theorem runS65 : pureOk 1000 (eS65).2.2 (call Tryz.prog (cx [eS59]) 20000 (eS65).1 (eS65).2.1 h0) = true := by kernel_rfl
theorem runS66 : pureOk 1000 (eS66).2.2 (call Tryz.prog (cx [eS64, eS65]) 20000 (eS66).1 (eS66).2.1 h0) = true := by kernel_rfl
theorem runS67 : pureOk 1000 (eS67).2.2 (call Tryz.prog (cx [eS59]) 20000 (eS67).1 (eS67).2.1 h0) = true := by kernel_rfl
theorem runS68 : pureOk 1000 (eS68).2.2 (call Tryz.prog (cx [eS59, eS60, eS62, eS63, eS64, eS66, eS67]) 20000 (eS68).1 (eS68).2.1 h0) = true := by kernel_rfl
end Go.Proofs.YtciljbmodhjpiaaGreatDoor
