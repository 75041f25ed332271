/- EscapeNames: calls, as the abstract machine reckons them, part 6. -/
import Derived.Test.YtlimihfdpfgedaaGreatDoorEV
namespace Go.Proofs.YtlimihfdpfgedaaGreatDoor
open Go.Ax
theorem runE137 : pureOkN 1000 (eE137).2.2 (callAll Tryz.prog (cx [eE43, eE47, eE50, eE51, eE52, eE53, eE54, eE55, eE56, eE57, eE62, eE63, eE64, eE65, eE66, eE116, eE131, eE132, eE133, eE134, eE135, eE136]) (nkE []) 20000 (eE137).1 (eE137).2.1) = true := by kernel_rfl
theorem runE138 : pureOk 1000 (eE138).2.2 (call Tryz.prog (cx [eE43, eE116, eE131]) 20000 (eE138).1 (eE138).2.1 h0) = true := by kernel_rfl
theorem runE139 : pureOk 1000 (eE139).2.2 (call Tryz.prog (cx [eE137, eE138]) 20000 (eE139).1 (eE139).2.1 h0) = true := by kernel_rfl
theorem runE140 : pureOk 1000 (eE140).2.2 (call Tryz.prog (cx [eE43, eE116, eE131]) 20000 (eE140).1 (eE140).2.1 h0) = true := by kernel_rfl
theorem runE141 : pureOk 1000 (eE141).2.2 (call Tryz.prog (cx []) 20000 (eE141).1 (eE141).2.1 h0) = true := by kernel_rfl
theorem runE142 : pureOk 1000 (eE142).2.2 (call Tryz.prog (cx [eE141]) 20000 (eE142).1 (eE142).2.1 h0) = true := by kernel_rfl
theorem runE143 : pureOk 1000 (eE143).2.2 (call Tryz.prog (cx [eE43, eE71, eE72, eE116, eE131, eE137, eE139, eE140, eE142]) 20000 (eE143).1 (eE143).2.1 h0) = true := by kernel_rfl
end Go.Proofs.YtlimihfdpfgedaaGreatDoor
