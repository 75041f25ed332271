/- ResolveNames: calls, as the abstract machine reckons them, part 6. -/
import Derived.Test.YtlimihfdpfgedaaGreatDoorQV
namespace Go.Proofs.YtlimihfdpfgedaaGreatDoor
open Go.Ax
theorem runQ146 : pureOkN 1000 (eQ146).2.2 (callAll Tryz.prog (cx [eQ37, eQ52, eQ58, eQ100, eQ101, eQ102, eQ105, eQ125, eQ126, eQ127, eQ129, eQ130, eQ131, eQ132, eQ133, eQ134, eQ135, eQ136, eQ137, eQ138, eQ139, eQ140, eQ141, eQ142, eQ143, eQ144, eQ145]) (nkQ []) 20000 (eQ146).1 (eQ146).2.1) = true := by kernel_rfl
theorem runQ147 : pureOk 1000 (eQ147).2.2 (call Tryz.prog (cx []) 20000 (eQ147).1 (eQ147).2.1 h0) = true := by kernel_rfl
theorem runQ148 : pureOk 1000 (eQ148).2.2 (call Tryz.prog (cx [eQ147]) 20000 (eQ148).1 (eQ148).2.1 h0) = true := by kernel_rfl
theorem runQ149 : pureOk 1000 (eQ149).2.2 (call Tryz.prog (cx []) 20000 (eQ149).1 (eQ149).2.1 h0) = true := by kernel_rfl
theorem runQ150 : pureOk 1000 (eQ150).2.2 (call Tryz.prog (cx [eQ35, eQ64, eQ94, eQ115, eQ146, eQ148, eQ149]) 20000 (eQ150).1 (eQ150).2.1 h0) = true := by kernel_rfl
theorem runQ151 : pureOk 1000 (eQ151).2.2 (call Tryz.prog (cx []) 20000 (eQ151).1 (eQ151).2.1 h0) = true := by kernel_rfl
theorem runQ152 : pureOk 1000 (eQ152).2.2 (call Tryz.prog (cx []) 20000 (eQ152).1 (eQ152).2.1 h0) = true := by kernel_rfl
theorem runQ153 : pureOk 1000 (eQ153).2.2 (call Tryz.prog (cx []) 20000 (eQ153).1 (eQ153).2.1 h0) = true := by kernel_rfl
end Go.Proofs.YtlimihfdpfgedaaGreatDoor
