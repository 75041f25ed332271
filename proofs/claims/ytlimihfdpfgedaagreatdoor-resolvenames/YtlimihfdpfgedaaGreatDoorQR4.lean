/- ResolveNames: calls, as the abstract machine reckons them, part 4. -/
import Derived.Test.YtlimihfdpfgedaaGreatDoorQV
namespace Go.Proofs.YtlimihfdpfgedaaGreatDoor
open Go.Ax
theorem runQ112 : pureOkN 1000 (eQ112).2.2 (callAll Tryz.prog (cx [eQ75, eQ83, eQ88, eQ95, eQ96, eQ97, eQ99, eQ100, eQ101, eQ102, eQ103, eQ104, eQ105, eQ106, eQ107, eQ108, eQ109, eQ110, eQ111]) (nkQ []) 20000 (eQ112).1 (eQ112).2.1) = true := by kernel_rfl
theorem runQ113 : pureOk 1000 (eQ113).2.2 (call Tryz.prog (cx []) 20000 (eQ113).1 (eQ113).2.1 h0) = true := by kernel_rfl
theorem runQ114 : pureOk 1000 (eQ114).2.2 (call Tryz.prog (cx [eQ113]) 20000 (eQ114).1 (eQ114).2.1 h0) = true := by kernel_rfl
theorem runQ115 : pureOk 1000 (eQ115).2.2 (call Tryz.prog (cx []) 20000 (eQ115).1 (eQ115).2.1 h0) = true := by kernel_rfl
theorem runQ116 : pureOk 1000 (eQ116).2.2 (call Tryz.prog (cx [eQ35, eQ93, eQ94, eQ112, eQ114, eQ115]) 20000 (eQ116).1 (eQ116).2.1 h0) = true := by kernel_rfl
theorem runQ117 : pureOk 1000 (eQ117).2.2 (call Tryz.prog (cx [eQ35]) 20000 (eQ117).1 (eQ117).2.1 h0) = true := by kernel_rfl
theorem runQ118 : pureOk 1000 (eQ118).2.2 (call Tryz.prog (cx []) 20000 (eQ118).1 (eQ118).2.1 h0) = true := by kernel_rfl
theorem runQ119 : pureOk 1000 (eQ119).2.2 (call Tryz.prog (cx []) 20000 (eQ119).1 (eQ119).2.1 h0) = true := by kernel_rfl
theorem runQ120 : pureOk 1000 (eQ120).2.2 (call Tryz.prog (cx []) 20000 (eQ120).1 (eQ120).2.1 h0) = true := by kernel_rfl
theorem runQ121 : pureOk 1000 (eQ121).2.2 (call Tryz.prog (cx []) 20000 (eQ121).1 (eQ121).2.1 h0) = true := by kernel_rfl
theorem runQ122 : pureOk 1000 (eQ122).2.2 (call Tryz.prog (cx []) 20000 (eQ122).1 (eQ122).2.1 h0) = true := by kernel_rfl
theorem runQ123 : pureOk 1000 (eQ123).2.2 (call Tryz.prog (cx []) 20000 (eQ123).1 (eQ123).2.1 h0) = true := by kernel_rfl
end Go.Proofs.YtlimihfdpfgedaaGreatDoor
