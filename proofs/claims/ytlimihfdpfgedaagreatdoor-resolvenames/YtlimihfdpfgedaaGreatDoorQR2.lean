/- ResolveNames: calls, as the abstract machine reckons them, part 2. -/
import Derived.Test.YtlimihfdpfgedaaGreatDoorQV
namespace Go.Proofs.YtlimihfdpfgedaaGreatDoor
open Go.Ax
theorem runQ55 : pureOk 1000 (eQ55).2.2 (call Tryz.prog (cx [eQ53, eQ54]) 20000 (eQ55).1 (eQ55).2.1 h0) = true := by kernel_rfl
theorem runQ56 : pureOk 1000 (eQ56).2.2 (call Tryz.prog (cx [eQ52]) 20000 (eQ56).1 (eQ56).2.1 h0) = true := by kernel_rfl
theorem runQ57 : pureOk 1000 (eQ57).2.2 (call Tryz.prog (cx []) 20000 (eQ57).1 (eQ57).2.1 h0) = true := by kernel_rfl
theorem runQ58 : pureOk 1000 (eQ58).2.2 (call Tryz.prog (cx [eQ36]) 20000 (eQ58).1 (eQ58).2.1 h0) = true := by kernel_rfl
theorem runQ59 : pureOk 1000 (eQ59).2.2 (call Tryz.prog (cx [eQ58]) 20000 (eQ59).1 (eQ59).2.1 h0) = true := by kernel_rfl
theorem runQ60 : pureOk 1000 (eQ60).2.2 (call Tryz.prog (cx [eQ58]) 20000 (eQ60).1 (eQ60).2.1 h0) = true := by kernel_rfl
theorem runQ61 : pureOk 1000 (eQ61).2.2 (call Tryz.prog (cx [eQ59, eQ60]) 20000 (eQ61).1 (eQ61).2.1 h0) = true := by kernel_rfl
theorem runQ62 : pureOk 1000 (eQ62).2.2 (call Tryz.prog (cx [eQ58]) 20000 (eQ62).1 (eQ62).2.1 h0) = true := by kernel_rfl
theorem runQ63 : pureOk 1000 (eQ63).2.2 (call Tryz.prog (cx []) 20000 (eQ63).1 (eQ63).2.1 h0) = true := by kernel_rfl
theorem runQ64 : pureOk 1000 (eQ64).2.2 (call Tryz.prog (cx [eQ11, eQ15, eQ16, eQ25, eQ30, eQ32, eQ33, eQ36, eQ38, eQ40, eQ41, eQ42, eQ43, eQ44, eQ45, eQ46, eQ47, eQ48, eQ49, eQ50, eQ51, eQ53, eQ55, eQ56, eQ57, eQ59, eQ61, eQ62, eQ63]) 20000 (eQ64).1 (eQ64).2.1 h0) = true := by kernel_rfl
theorem runQ65 : pureOk 1000 (eQ65).2.2 (call Tryz.prog (cx [eQ64]) 20000 (eQ65).1 (eQ65).2.1 h0) = true := by kernel_rfl
theorem runQ66 : pureOk 1000 (eQ66).2.2 (call Tryz.prog (cx []) 20000 (eQ66).1 (eQ66).2.1 h0) = true := by kernel_rfl
theorem runQ67 : pureOk 1000 (eQ67).2.2 (call Tryz.prog (cx [eQ66]) 20000 (eQ67).1 (eQ67).2.1 h0) = true := by kernel_rfl
theorem runQ68 : pureOk 1000 (eQ68).2.2 (call Tryz.prog (cx [eQ67]) 20000 (eQ68).1 (eQ68).2.1 h0) = true := by kernel_rfl
theorem runQ69 : pureOk 1000 (eQ69).2.2 (call Tryz.prog (cx [eQ68]) 20000 (eQ69).1 (eQ69).2.1 h0) = true := by kernel_rfl
theorem runQ70 : pureOk 1000 (eQ70).2.2 (call Tryz.prog (cx []) 20000 (eQ70).1 (eQ70).2.1 h0) = true := by kernel_rfl
theorem runQ71 : pureOk 1000 (eQ71).2.2 (call Tryz.prog (cx []) 20000 (eQ71).1 (eQ71).2.1 h0) = true := by kernel_rfl
theorem runQ72 : pureOk 1000 (eQ72).2.2 (call Tryz.prog (cx []) 20000 (eQ72).1 (eQ72).2.1 h0) = true := by kernel_rfl
end Go.Proofs.YtlimihfdpfgedaaGreatDoor
