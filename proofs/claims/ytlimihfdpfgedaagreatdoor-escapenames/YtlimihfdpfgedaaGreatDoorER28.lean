/- EscapeNames: calls, as the abstract machine reckons them, part 28. -/
import Derived.Test.YtlimihfdpfgedaaGreatDoorEV
namespace Go.Proofs.YtlimihfdpfgedaaGreatDoor
open Go.Ax
theorem runE355 : pureOk 1000 (eE355).2.2 (call Tryz.prog (cx [eE27]) 20000 (eE355).1 (eE355).2.1 h0) = true := by kernel_rfl
theorem runE356 : pureOk 1000 (eE356).2.2 (call Tryz.prog (cx [eE355]) 20000 (eE356).1 (eE356).2.1 h0) = true := by kernel_rfl
theorem runE357 : pureOk 1000 (eE357).2.2 (call Tryz.prog (cx [eE356]) 20000 (eE357).1 (eE357).2.1 h0) = true := by kernel_rfl
theorem runE358 : pureOk 1000 (eE358).2.2 (call Tryz.prog (cx [eE356]) 20000 (eE358).1 (eE358).2.1 h0) = true := by kernel_rfl
theorem runE359 : pureOk 1000 (eE359).2.2 (call Tryz.prog (cx [eE357, eE358]) 20000 (eE359).1 (eE359).2.1 h0) = true := by kernel_rfl
theorem runE360 : pureOk 1000 (eE360).2.2 (call Tryz.prog (cx [eE356]) 20000 (eE360).1 (eE360).2.1 h0) = true := by kernel_rfl
theorem runE361 : pureOk 1000 (eE361).2.2 (call Tryz.prog (cx []) 20000 (eE361).1 (eE361).2.1 h0) = true := by kernel_rfl
theorem runE362 : pureOk 1000 (eE362).2.2 (call Tryz.prog (cx []) 20000 (eE362).1 (eE362).2.1 h0) = true := by kernel_rfl
theorem runE363 : pureOk 1000 (eE363).2.2 (call Tryz.prog (cx [eE355]) 20000 (eE363).1 (eE363).2.1 h0) = true := by kernel_rfl
theorem runE364 : pureOk 1000 (eE364).2.2 (call Tryz.prog (cx [eE363]) 20000 (eE364).1 (eE364).2.1 h0) = true := by kernel_rfl
theorem runE365 : pureOk 1000 (eE365).2.2 (call Tryz.prog (cx [eE363]) 20000 (eE365).1 (eE365).2.1 h0) = true := by kernel_rfl
theorem runE366 : pureOk 1000 (eE366).2.2 (call Tryz.prog (cx [eE364, eE365]) 20000 (eE366).1 (eE366).2.1 h0) = true := by kernel_rfl
theorem runE367 : pureOk 1000 (eE367).2.2 (call Tryz.prog (cx [eE363]) 20000 (eE367).1 (eE367).2.1 h0) = true := by kernel_rfl
theorem runE368 : pureOk 1000 (eE368).2.2 (call Tryz.prog (cx [eE11, eE17, eE24, eE34, eE36, eE37, eE38, eE79, eE106, eE129, eE355, eE357, eE359, eE360, eE361, eE362, eE364, eE366, eE367]) 20000 (eE368).1 (eE368).2.1 h0) = true := by kernel_rfl
theorem runE369 : pureOk 1000 (eE369).2.2 (call Tryz.prog (cx [eE368]) 20000 (eE369).1 (eE369).2.1 h0) = true := by kernel_rfl
theorem runE370 : pureOk 1000 (eE370).2.2 (call Tryz.prog (cx []) 20000 (eE370).1 (eE370).2.1 h0) = true := by kernel_rfl
theorem runE371 : pureOk 1000 (eE371).2.2 (call Tryz.prog (cx [eE43, eE46, eE356, eE363, eE369]) 20000 (eE371).1 (eE371).2.1 h0) = true := by kernel_rfl
theorem runE372 : pureOk 1000 (eE372).2.2 (call Tryz.prog (cx []) 20000 (eE372).1 (eE372).2.1 h0) = true := by kernel_rfl
theorem runE373 : pureOk 1000 (eE373).2.2 (call Tryz.prog (cx [eE372]) 20000 (eE373).1 (eE373).2.1 h0) = true := by kernel_rfl
theorem runE374 : pureOk 1000 (eE374).2.2 (call Tryz.prog (cx [eE372]) 20000 (eE374).1 (eE374).2.1 h0) = true := by kernel_rfl
theorem runE375 : pureOk 1000 (eE375).2.2 (call Tryz.prog (cx [eE372]) 20000 (eE375).1 (eE375).2.1 h0) = true := by kernel_rfl
theorem runE376 : pureOk 1000 (eE376).2.2 (call Tryz.prog (cx [eE372]) 20000 (eE376).1 (eE376).2.1 h0) = true := by kernel_rfl
theorem runE377 : pureOk 1000 (eE377).2.2 (call Tryz.prog (cx [eE372]) 20000 (eE377).1 (eE377).2.1 h0) = true := by kernel_rfl
theorem runE378 : pureOk 1000 (eE378).2.2 (call Tryz.prog (cx [eE372]) 20000 (eE378).1 (eE378).2.1 h0) = true := by kernel_rfl
theorem runE379 : pureOk 1000 (eE379).2.2 (call Tryz.prog (cx []) 20000 (eE379).1 (eE379).2.1 h0) = true := by kernel_rfl
theorem runE380 : pureOk 1000 (eE380).2.2 (call Tryz.prog (cx []) 20000 (eE380).1 (eE380).2.1 h0) = true := by kernel_rfl
theorem runE381 : pureOk 1000 (eE381).2.2 (call Tryz.prog (cx []) 20000 (eE381).1 (eE381).2.1 h0) = true := by kernel_rfl
theorem runE382 : pureOk 1000 (eE382).2.2 (call Tryz.prog (cx []) 20000 (eE382).1 (eE382).2.1 h0) = true := by kernel_rfl
theorem runE383 : pureOk 1000 (eE383).2.2 (call Tryz.prog (cx []) 20000 (eE383).1 (eE383).2.1 h0) = true := by kernel_rfl
end Go.Proofs.YtlimihfdpfgedaaGreatDoor
