/- ScalarNames: calls, as the abstract machine reckons them, part 7. -/
import Derived.Test.YtolmndaigpcdaaaGreatDoorKV
namespace Go.Proofs.YtolmndaigpcdaaaGreatDoor
open Go.Ax
theorem runK78 : pureOk 1000 (eK78).2.2 (call Tryz.prog (cx [eK25]) 20000 (eK78).1 (eK78).2.1 h0) = true := by kernel_rfl
theorem runK79 : pureOk 1000 (eK79).2.2 (call Tryz.prog (cx [eK78]) 20000 (eK79).1 (eK79).2.1 h0) = true := by kernel_rfl
theorem runK80 : pureOk 1000 (eK80).2.2 (call Tryz.prog (cx [eK78]) 20000 (eK80).1 (eK80).2.1 h0) = true := by kernel_rfl
theorem runK81 : pureOk 1000 (eK81).2.2 (call Tryz.prog (cx [eK79, eK80]) 20000 (eK81).1 (eK81).2.1 h0) = true := by kernel_rfl
theorem runK82 : pureOk 1000 (eK82).2.2 (call Tryz.prog (cx [eK78]) 20000 (eK82).1 (eK82).2.1 h0) = true := by kernel_rfl
theorem runK83 : pureOk 1000 (eK83).2.2 (call Tryz.prog (cx [eK22, eK31, eK75, eK78, eK79, eK81, eK82]) 20000 (eK83).1 (eK83).2.1 h0) = true := by kernel_rfl
theorem runK84 : pureOk 1000 (eK84).2.2 (call Tryz.prog (cx [eK83]) 20000 (eK84).1 (eK84).2.1 h0) = true := by kernel_rfl
theorem runK85 : pureOk 1000 (eK85).2.2 (call Tryz.prog (cx [eK22, eK31, eK75, eK77, eK84]) 20000 (eK85).1 (eK85).2.1 h0) = true := by kernel_rfl
theorem runK86 : pureOk 1000 (eK86).2.2 (call Tryz.prog (cx []) 20000 (eK86).1 (eK86).2.1 h0) = true := by kernel_rfl
theorem runK87 : pureOk 1000 (eK87).2.2 (call Tryz.prog (cx [eK22, eK31, eK37, eK38, eK39, eK40, eK41, eK42, eK43, eK44, eK45, eK46, eK47, eK48, eK49, eK50, eK51, eK55, eK56, eK75, eK78, eK86]) 20000 (eK87).1 (eK87).2.1 h0) = true := by kernel_rfl
theorem runK88 : pureOk 1000 (eK88).2.2 (call Tryz.prog (cx [eK76, eK85, eK87]) 20000 (eK88).1 (eK88).2.1 h0) = true := by kernel_rfl
end Go.Proofs.YtolmndaigpcdaaaGreatDoor
