/- EscapeNames: calls, as the abstract machine reckons them, part 5. -/
import Derived.Test.YtlimihfdpfgedaaGreatDoorEV
namespace Go.Proofs.YtlimihfdpfgedaaGreatDoor
open Go.Ax
theorem runE114 : pureOk 1000 (eE114).2.2 (call Tryz.prog (cx [eE3, eE4, eE6, eE9, eE10, eE11, eE12, eE13, eE19, eE20, eE24, eE25, eE104, eE105, eE106, eE107, eE108, eE109, eE110, eE111, eE112, eE113]) 20000 (eE114).1 (eE114).2.1 h0) = true := by kernel_rfl
theorem runE115 : pureOk 1000 (eE115).2.2 (call Tryz.prog (cx [eE27]) 20000 (eE115).1 (eE115).2.1 h0) = true := by kernel_rfl
theorem runE116 : pureOk 1000 (eE116).2.2 (call Tryz.prog (cx [eE115]) 20000 (eE116).1 (eE116).2.1 h0) = true := by kernel_rfl
theorem runE117 : pureOk 1000 (eE117).2.2 (call Tryz.prog (cx [eE116]) 20000 (eE117).1 (eE117).2.1 h0) = true := by kernel_rfl
theorem runE118 : pureOk 1000 (eE118).2.2 (call Tryz.prog (cx [eE116]) 20000 (eE118).1 (eE118).2.1 h0) = true := by kernel_rfl
theorem runE119 : pureOk 1000 (eE119).2.2 (call Tryz.prog (cx [eE117, eE118]) 20000 (eE119).1 (eE119).2.1 h0) = true := by kernel_rfl
theorem runE120 : pureOk 1000 (eE120).2.2 (call Tryz.prog (cx [eE116]) 20000 (eE120).1 (eE120).2.1 h0) = true := by kernel_rfl
theorem runE121 : pureOk 1000 (eE121).2.2 (call Tryz.prog (cx []) 20000 (eE121).1 (eE121).2.1 h0) = true := by kernel_rfl
theorem runE122 : pureOk 1000 (eE122).2.2 (call Tryz.prog (cx []) 20000 (eE122).1 (eE122).2.1 h0) = true := by kernel_rfl
theorem runE123 : pureOk 1000 (eE123).2.2 (call Tryz.prog (cx [eE116]) 20000 (eE123).1 (eE123).2.1 h0) = true := by kernel_rfl
theorem runE124 : pureOk 1000 (eE124).2.2 (call Tryz.prog (cx []) 20000 (eE124).1 (eE124).2.1 h0) = true := by kernel_rfl
theorem runE125 : pureOk 1000 (eE125).2.2 (call Tryz.prog (cx [eE116]) 20000 (eE125).1 (eE125).2.1 h0) = true := by kernel_rfl
theorem runE126 : pureOk 1000 (eE126).2.2 (call Tryz.prog (cx [eE116]) 20000 (eE126).1 (eE126).2.1 h0) = true := by kernel_rfl
theorem runE127 : pureOk 1000 (eE127).2.2 (call Tryz.prog (cx []) 20000 (eE127).1 (eE127).2.1 h0) = true := by kernel_rfl
theorem runE128 : pureOk 1000 (eE128).2.2 (call Tryz.prog (cx []) 20000 (eE128).1 (eE128).2.1 h0) = true := by kernel_rfl
theorem runE129 : pureOk 1000 (eE129).2.2 (call Tryz.prog (cx []) 20000 (eE129).1 (eE129).2.1 h0) = true := by kernel_rfl
theorem runE130 : pureOk 1000 (eE130).2.2 (call Tryz.prog (cx [eE11, eE19, eE24, eE34, eE37, eE106, eE112, eE115, eE117, eE119, eE120, eE121, eE122, eE123, eE124, eE125, eE126, eE127, eE128, eE129]) 20000 (eE130).1 (eE130).2.1 h0) = true := by kernel_rfl
theorem runE131 : pureOk 1000 (eE131).2.2 (call Tryz.prog (cx [eE130]) 20000 (eE131).1 (eE131).2.1 h0) = true := by kernel_rfl
theorem runE132 : pureOk 1000 (eE132).2.2 (call Tryz.prog (cx [eE43, eE116, eE131]) 20000 (eE132).1 (eE132).2.1 h0) = true := by kernel_rfl
theorem runE133 : pureOk 1000 (eE133).2.2 (call Tryz.prog (cx []) 20000 (eE133).1 (eE133).2.1 h0) = true := by kernel_rfl
theorem runE134 : pureOk 1000 (eE134).2.2 (call Tryz.prog (cx []) 20000 (eE134).1 (eE134).2.1 h0) = true := by kernel_rfl
theorem runE135 : pureOk 1000 (eE135).2.2 (call Tryz.prog (cx []) 20000 (eE135).1 (eE135).2.1 h0) = true := by kernel_rfl
theorem runE136 : pureOk 1000 (eE136).2.2 (call Tryz.prog (cx []) 20000 (eE136).1 (eE136).2.1 h0) = true := by kernel_rfl
end Go.Proofs.YtlimihfdpfgedaaGreatDoor
