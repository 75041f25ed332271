/- StepNames: calls, as the abstract machine reckons them, part 10. -/
import Derived.Test.YtciljbmodhjpiaaGreatDoorSV
namespace Go.Proofs.YtciljbmodhjpiaaGreatDoor
open Go.Ax
theorem runS44 : pureOk 1000 (eS44).2.2 (call Tryz.prog (cx [eS43]) 20000 (eS44).1 (eS44).2.1 h0) = true := by kernel_rfl
theorem runS45 : pureOk 1000 (eS45).2.2 (call Tryz.prog (cx [eS2]) 20000 (eS45).1 (eS45).2.1 h0) = true := by kernel_rfl
theorem runS46 : pureOk 1000 (eS46).2.2 (call Tryz.prog (cx [eS45]) 20000 (eS46).1 (eS46).2.1 h0) = true := by kernel_rfl
theorem runS47 : pureOk 1000 (eS47).2.2 (call Tryz.prog (cx [eS45]) 20000 (eS47).1 (eS47).2.1 h0) = true := by kernel_rfl
theorem runS48 : pureOk 1000 (eS48).2.2 (call Tryz.prog (cx [eS46, eS47]) 20000 (eS48).1 (eS48).2.1 h0) = true := by kernel_rfl
theorem runS49 : pureOk 1000 (eS49).2.2 (call Tryz.prog (cx [eS45]) 20000 (eS49).1 (eS49).2.1 h0) = true := by kernel_rfl
theorem runS50 : pureOk 1000 (eS50).2.2 (call Tryz.prog (cx [eS45]) 20000 (eS50).1 (eS50).2.1 h0) = true := by kernel_rfl
theorem runS51 : pureOk 1000 (eS51).2.2 (call Tryz.prog (cx [eS45]) 20000 (eS51).1 (eS51).2.1 h0) = true := by kernel_rfl
theorem runS52 : pureOk 1000 (eS52).2.2 (call Tryz.prog (cx [eS50, eS51]) 20000 (eS52).1 (eS52).2.1 h0) = true := by kernel_rfl
theorem runS53 : pureOk 1000 (eS53).2.2 (call Tryz.prog (cx [eS45]) 20000 (eS53).1 (eS53).2.1 h0) = true := by kernel_rfl
theorem runS54 : pureOk 1000 (eS54).2.2 (call Tryz.prog (cx [eS45, eS46, eS48, eS49, eS50, eS52, eS53]) 20000 (eS54).1 (eS54).2.1 h0) = true := by kernel_rfl
theorem runS55 : pureOk 1000 (eS55).2.2 (call Tryz.prog (cx [eS44, eS45, eS54]) 20000 (eS55).1 (eS55).2.1 h0) = true := by kernel_rfl
theorem runS56 : pureOk 1000 (eS56).2.2 (call Tryz.prog (cx [eS55]) 20000 (eS56).1 (eS56).2.1 h0) = true := by kernel_rfl
end Go.Proofs.YtciljbmodhjpiaaGreatDoor
