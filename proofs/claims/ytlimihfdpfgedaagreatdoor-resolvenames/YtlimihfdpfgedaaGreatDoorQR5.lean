/- ResolveNames: calls, as the abstract machine reckons them, part 5. -/
import Derived.Test.YtlimihfdpfgedaaGreatDoorQV
namespace Go.Proofs.YtlimihfdpfgedaaGreatDoor
open Go.Ax
theorem runQ124 : pureOk 1000 (eQ124).2.2 (call Tryz.prog (cx [eQ11, eQ32, eQ33, eQ42, eQ71, eQ80, eQ117, eQ118, eQ119, eQ120, eQ121, eQ122, eQ123]) 20000 (eQ124).1 (eQ124).2.1 h0) = true := by kernel_rfl
theorem runQ125 : pureOk 1000 (eQ125).2.2 (call Tryz.prog (cx [eQ64]) 20000 (eQ125).1 (eQ125).2.1 h0) = true := by kernel_rfl
theorem runQ126 : pureOk 1000 (eQ126).2.2 (call Tryz.prog (cx []) 20000 (eQ126).1 (eQ126).2.1 h0) = true := by kernel_rfl
theorem runQ127 : pureOk 1000 (eQ127).2.2 (call Tryz.prog (cx [eQ37, eQ52, eQ58, eQ125]) 20000 (eQ127).1 (eQ127).2.1 h0) = true := by kernel_rfl
theorem runQ128 : pureOk 1000 (eQ128).2.2 (call Tryz.prog (cx []) 20000 (eQ128).1 (eQ128).2.1 h0) = true := by kernel_rfl
theorem runQ129 : pureOk 1000 (eQ129).2.2 (call Tryz.prog (cx [eQ128]) 20000 (eQ129).1 (eQ129).2.1 h0) = true := by kernel_rfl
theorem runQ130 : pureOk 1000 (eQ130).2.2 (call Tryz.prog (cx [eQ128]) 20000 (eQ130).1 (eQ130).2.1 h0) = true := by kernel_rfl
theorem runQ131 : pureOk 1000 (eQ131).2.2 (call Tryz.prog (cx []) 20000 (eQ131).1 (eQ131).2.1 h0) = true := by kernel_rfl
theorem runQ132 : pureOk 1000 (eQ132).2.2 (call Tryz.prog (cx []) 20000 (eQ132).1 (eQ132).2.1 h0) = true := by kernel_rfl
theorem runQ133 : pureOk 1000 (eQ133).2.2 (call Tryz.prog (cx [eQ128]) 20000 (eQ133).1 (eQ133).2.1 h0) = true := by kernel_rfl
theorem runQ134 : pureOk 1000 (eQ134).2.2 (call Tryz.prog (cx []) 20000 (eQ134).1 (eQ134).2.1 h0) = true := by kernel_rfl
theorem runQ135 : pureOk 1000 (eQ135).2.2 (call Tryz.prog (cx []) 20000 (eQ135).1 (eQ135).2.1 h0) = true := by kernel_rfl
theorem runQ136 : pureOk 1000 (eQ136).2.2 (call Tryz.prog (cx []) 20000 (eQ136).1 (eQ136).2.1 h0) = true := by kernel_rfl
theorem runQ137 : pureOk 1000 (eQ137).2.2 (call Tryz.prog (cx []) 20000 (eQ137).1 (eQ137).2.1 h0) = true := by kernel_rfl
theorem runQ138 : pureOk 1000 (eQ138).2.2 (call Tryz.prog (cx [eQ128]) 20000 (eQ138).1 (eQ138).2.1 h0) = true := by kernel_rfl
theorem runQ139 : pureOk 1000 (eQ139).2.2 (call Tryz.prog (cx [eQ128]) 20000 (eQ139).1 (eQ139).2.1 h0) = true := by kernel_rfl
theorem runQ140 : pureOk 1000 (eQ140).2.2 (call Tryz.prog (cx [eQ128]) 20000 (eQ140).1 (eQ140).2.1 h0) = true := by kernel_rfl
theorem runQ141 : pureOk 1000 (eQ141).2.2 (call Tryz.prog (cx [eQ128]) 20000 (eQ141).1 (eQ141).2.1 h0) = true := by kernel_rfl
theorem runQ142 : pureOk 1000 (eQ142).2.2 (call Tryz.prog (cx [eQ128]) 20000 (eQ142).1 (eQ142).2.1 h0) = true := by kernel_rfl
theorem runQ143 : pureOk 1000 (eQ143).2.2 (call Tryz.prog (cx [eQ128]) 20000 (eQ143).1 (eQ143).2.1 h0) = true := by kernel_rfl
theorem runQ144 : pureOk 1000 (eQ144).2.2 (call Tryz.prog (cx [eQ128]) 20000 (eQ144).1 (eQ144).2.1 h0) = true := by kernel_rfl
theorem runQ145 : pureOk 1000 (eQ145).2.2 (call Tryz.prog (cx [eQ128]) 20000 (eQ145).1 (eQ145).2.1 h0) = true := by kernel_rfl
end Go.Proofs.YtlimihfdpfgedaaGreatDoor
