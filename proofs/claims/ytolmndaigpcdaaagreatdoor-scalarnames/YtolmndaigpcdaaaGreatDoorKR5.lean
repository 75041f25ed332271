/- ScalarNames: calls, as the abstract machine reckons them, part 5. -/
import Derived.Test.YtolmndaigpcdaaaGreatDoorKV
namespace Go.Proofs.YtolmndaigpcdaaaGreatDoor
open Go.Ax
theorem runK63 : pureOk 1000 (eK63).2.2 (call Tryz.prog (cx [eK62]) 20000 (eK63).1 (eK63).2.1 h0) = true := by kernel_rfl
theorem runK64 : pureOk 1000 (eK64).2.2 (call Tryz.prog (cx [eK62]) 20000 (eK64).1 (eK64).2.1 h0) = true := by kernel_rfl
theorem runK65 : pureOk 1000 (eK65).2.2 (call Tryz.prog (cx [eK63, eK64]) 20000 (eK65).1 (eK65).2.1 h0) = true := by kernel_rfl
theorem runK66 : pureOk 1000 (eK66).2.2 (call Tryz.prog (cx [eK62]) 20000 (eK66).1 (eK66).2.1 h0) = true := by kernel_rfl
theorem runK67 : pureOk 1000 (eK67).2.2 (call Tryz.prog (cx [eK22, eK31, eK33, eK62, eK63, eK65, eK66]) 20000 (eK67).1 (eK67).2.1 h0) = true := by kernel_rfl
theorem runK68 : pureOk 1000 (eK68).2.2 (call Tryz.prog (cx [eK67]) 20000 (eK68).1 (eK68).2.1 h0) = true := by kernel_rfl
theorem runK69 : pureOk 1000 (eK69).2.2 (call Tryz.prog (cx [eK62]) 20000 (eK69).1 (eK69).2.1 h0) = true := by kernel_rfl
theorem runK70 : pureOk 1000 (eK70).2.2 (call Tryz.prog (cx [eK63, eK64, eK69]) 20000 (eK70).1 (eK70).2.1 h0) = true := by kernel_rfl
theorem runK71 : pureOk 1000 (eK71).2.2 (call Tryz.prog (cx [eK22, eK31, eK33, eK61, eK68, eK70]) 20000 (eK71).1 (eK71).2.1 h0) = true := by kernel_rfl
theorem runK72 : pureOk 1000 (eK72).2.2 (call Tryz.prog (cx [eK22, eK31, eK33, eK37, eK38, eK39, eK40, eK41, eK42, eK43, eK44, eK45, eK46, eK47, eK48, eK49, eK50, eK51, eK53, eK55, eK56, eK62]) 20000 (eK72).1 (eK72).2.1 h0) = true := by kernel_rfl
theorem runK73 : pureOk 1000 (eK73).2.2 (call Tryz.prog (cx [eK60, eK71, eK72]) 20000 (eK73).1 (eK73).2.1 h0) = true := by kernel_rfl
end Go.Proofs.YtolmndaigpcdaaaGreatDoor
