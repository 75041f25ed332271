/- EscapeNames: calls, as the abstract machine reckons them, part 31. -/
import Derived.Test.YtlimihfdpfgedaaGreatDoorEV
namespace Go.Proofs.YtlimihfdpfgedaaGreatDoor
open Go.Ax
theorem runE406 : pureOk 1000 (eE406).2.2 (call Tryz.prog (cx []) 20000 (eE406).1 (eE406).2.1 h0) = true := by kernel_rfl
theorem runE407 : pureOk 1000 (eE407).2.2 (call Tryz.prog (cx []) 20000 (eE407).1 (eE407).2.1 h0) = true := by kernel_rfl
theorem runE408 : pureOk 1000 (eE408).2.2 (call Tryz.prog (cx []) 20000 (eE408).1 (eE408).2.1 h0) = true := by kernel_rfl
theorem runE409 : pureOk 1000 (eE409).2.2 (call Tryz.prog (cx []) 20000 (eE409).1 (eE409).2.1 h0) = true := by kernel_rfl
theorem runE410 : pureOk 1000 (eE410).2.2 (call Tryz.prog (cx []) 20000 (eE410).1 (eE410).2.1 h0) = true := by kernel_rfl
theorem runE411 : pureOk 1000 (eE411).2.2 (call Tryz.prog (cx []) 20000 (eE411).1 (eE411).2.1 h0) = true := by kernel_rfl
theorem runE412 : pureOk 1000 (eE412).2.2 (call Tryz.prog (cx [eE372]) 20000 (eE412).1 (eE412).2.1 h0) = true := by kernel_rfl
theorem runE413 : pureOk 1000 (eE413).2.2 (call Tryz.prog (cx [eE372]) 20000 (eE413).1 (eE413).2.1 h0) = true := by kernel_rfl
theorem runE414 : pureOk 1000 (eE414).2.2 (call Tryz.prog (cx [eE372]) 20000 (eE414).1 (eE414).2.1 h0) = true := by kernel_rfl
theorem runE415 : pureOk 1000 (eE415).2.2 (call Tryz.prog (cx [eE372]) 20000 (eE415).1 (eE415).2.1 h0) = true := by kernel_rfl
theorem runE416 : pureOkN 1000 (eE416).2.2 (callAll Tryz.prog (cx [eE43, eE46, eE51, eE55, eE56, eE58, eE59, eE177, eE178, eE181, eE356, eE363, eE369, eE370, eE371, eE373, eE374, eE375, eE376, eE377, eE378, eE379, eE386, eE387, eE412, eE413, eE414, eE415]) (nkE [pE4, pE5, pE6]) 20000 (eE416).1 (eE416).2.1) = true := by kernel_rfl
end Go.Proofs.YtlimihfdpfgedaaGreatDoor
