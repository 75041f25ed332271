/- PromoteNames: calls, as the abstract machine reckons them, part 11. -/
import Derived.Test.YtodpcmfblpmheaaGreatDoorPV
namespace Go.Proofs.YtodpcmfblpmheaaGreatDoor
open Go.Ax
theorem runP139 : pureOk 1000 (eP139).2.2 (call Tryz.prog (cx [eP3, eP6, eP9, eP10, eP14, eP15, eP16, eP17, eP18, eP19, eP20, eP21, eP28, eP29, eP30, eP135, eP136, eP137, eP138]) 20000 (eP139).1 (eP139).2.1 h0) = true := by kernel_rfl
theorem runP140 : pureOk 1000 (eP140).2.2 (call Tryz.prog (cx [eP32]) 20000 (eP140).1 (eP140).2.1 h0) = true := by kernel_rfl
theorem runP141 : pureOk 1000 (eP141).2.2 (call Tryz.prog (cx [eP140]) 20000 (eP141).1 (eP141).2.1 h0) = true := by kernel_rfl
theorem runP142 : pureOk 1000 (eP142).2.2 (call Tryz.prog (cx [eP141]) 20000 (eP142).1 (eP142).2.1 h0) = true := by kernel_rfl
theorem runP143 : pureOk 1000 (eP143).2.2 (call Tryz.prog (cx [eP141]) 20000 (eP143).1 (eP143).2.1 h0) = true := by kernel_rfl
theorem runP144 : pureOk 1000 (eP144).2.2 (call Tryz.prog (cx [eP142, eP143]) 20000 (eP144).1 (eP144).2.1 h0) = true := by kernel_rfl
theorem runP145 : pureOk 1000 (eP145).2.2 (call Tryz.prog (cx [eP141]) 20000 (eP145).1 (eP145).2.1 h0) = true := by kernel_rfl
theorem runP146 : pureOk 1000 (eP146).2.2 (call Tryz.prog (cx []) 20000 (eP146).1 (eP146).2.1 h0) = true := by kernel_rfl
theorem runP147 : pureOk 1000 (eP147).2.2 (call Tryz.prog (cx []) 20000 (eP147).1 (eP147).2.1 h0) = true := by kernel_rfl
theorem runP148 : pureOk 1000 (eP148).2.2 (call Tryz.prog (cx [eP140]) 20000 (eP148).1 (eP148).2.1 h0) = true := by kernel_rfl
theorem runP149 : pureOk 1000 (eP149).2.2 (call Tryz.prog (cx [eP148]) 20000 (eP149).1 (eP149).2.1 h0) = true := by kernel_rfl
theorem runP150 : pureOk 1000 (eP150).2.2 (call Tryz.prog (cx [eP148]) 20000 (eP150).1 (eP150).2.1 h0) = true := by kernel_rfl
theorem runP151 : pureOk 1000 (eP151).2.2 (call Tryz.prog (cx [eP149, eP150]) 20000 (eP151).1 (eP151).2.1 h0) = true := by kernel_rfl
theorem runP152 : pureOk 1000 (eP152).2.2 (call Tryz.prog (cx [eP148]) 20000 (eP152).1 (eP152).2.1 h0) = true := by kernel_rfl
end Go.Proofs.YtodpcmfblpmheaaGreatDoor
