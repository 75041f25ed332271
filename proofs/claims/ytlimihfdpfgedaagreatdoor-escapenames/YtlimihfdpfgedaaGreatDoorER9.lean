/- EscapeNames: calls, as the abstract machine reckons them, part 9. -/
import Derived.Test.YtlimihfdpfgedaaGreatDoorEV
namespace Go.Proofs.YtlimihfdpfgedaaGreatDoor
open Go.Ax
theorem runE178 : pureOk 1000 (eE178).2.2 (call Tryz.prog (cx []) 20000 (eE178).1 (eE178).2.1 h0) = true := by kernel_rfl
theorem runE179 : pureOk 1000 (eE179).2.2 (call Tryz.prog (cx [eE173]) 20000 (eE179).1 (eE179).2.1 h0) = true := by kernel_rfl
theorem runE180 : pureOk 1000 (eE180).2.2 (call Tryz.prog (cx [eE173]) 20000 (eE180).1 (eE180).2.1 h0) = true := by kernel_rfl
theorem runE181 : pureOk 1000 (eE181).2.2 (call Tryz.prog (cx [eE51]) 20000 (eE181).1 (eE181).2.1 h0) = true := by kernel_rfl
theorem runE182 : pureOk 1000 (eE182).2.2 (call Tryz.prog (cx [eE173]) 20000 (eE182).1 (eE182).2.1 h0) = true := by kernel_rfl
theorem runE183 : pureOk 1000 (eE183).2.2 (call Tryz.prog (cx [eE173]) 20000 (eE183).1 (eE183).2.1 h0) = true := by kernel_rfl
theorem runE184 : pureOk 1000 (eE184).2.2 (call Tryz.prog (cx []) 20000 (eE184).1 (eE184).2.1 h0) = true := by kernel_rfl
theorem runE185 : pureOk 1000 (eE185).2.2 (call Tryz.prog (cx []) 20000 (eE185).1 (eE185).2.1 h0) = true := by kernel_rfl
theorem runE186 : pureOk 1000 (eE186).2.2 (call Tryz.prog (cx []) 20000 (eE186).1 (eE186).2.1 h0) = true := by kernel_rfl
theorem runE187 : pureOk 1000 (eE187).2.2 (call Tryz.prog (cx []) 20000 (eE187).1 (eE187).2.1 h0) = true := by kernel_rfl
theorem runE188 : pureOk 1000 (eE188).2.2 (call Tryz.prog (cx []) 20000 (eE188).1 (eE188).2.1 h0) = true := by kernel_rfl
theorem runE189 : pureOk 1000 (eE189).2.2 (call Tryz.prog (cx []) 20000 (eE189).1 (eE189).2.1 h0) = true := by kernel_rfl
theorem runE190 : pureOk 1000 (eE190).2.2 (call Tryz.prog (cx []) 20000 (eE190).1 (eE190).2.1 h0) = true := by kernel_rfl
theorem runE191 : pureOk 1000 (eE191).2.2 (call Tryz.prog (cx []) 20000 (eE191).1 (eE191).2.1 h0) = true := by kernel_rfl
theorem runE192 : pureOk 1000 (eE192).2.2 (call Tryz.prog (cx []) 20000 (eE192).1 (eE192).2.1 h0) = true := by kernel_rfl
theorem runE193 : pureOk 1000 (eE193).2.2 (call Tryz.prog (cx []) 20000 (eE193).1 (eE193).2.1 h0) = true := by kernel_rfl
theorem runE194 : pureOk 1000 (eE194).2.2 (call Tryz.prog (cx []) 20000 (eE194).1 (eE194).2.1 h0) = true := by kernel_rfl
theorem runE195 : pureOk 1000 (eE195).2.2 (call Tryz.prog (cx []) 20000 (eE195).1 (eE195).2.1 h0) = true := by kernel_rfl
theorem runE196 : pureOk 1000 (eE196).2.2 (call Tryz.prog (cx []) 20000 (eE196).1 (eE196).2.1 h0) = true := by kernel_rfl
end Go.Proofs.YtlimihfdpfgedaaGreatDoor
