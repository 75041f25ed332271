/- ReloadNames: calls, as the abstract machine reckons them, part 4. -/
import Derived.Test.YtmmjfmbpilfehaaGreatDoorRV
namespace Go.Proofs.YtmmjfmbpilfehaaGreatDoor
open Go.Ax
theorem runR66 : pureOk 1000 (eR66).2.2 (call Tryz.prog (cx []) 20000 (eR66).1 (eR66).2.1 h0) = true := by kernel_rfl
theorem runR67 : pureOk 1000 (eR67).2.2 (call Tryz.prog (cx [eR62]) 20000 (eR67).1 (eR67).2.1 h0) = true := by kernel_rfl
theorem runR68 : pureOk 1000 (eR68).2.2 (call Tryz.prog (cx [eR62]) 20000 (eR68).1 (eR68).2.1 h0) = true := by kernel_rfl
theorem runR69 : pureOk 1000 (eR69).2.2 (call Tryz.prog (cx []) 20000 (eR69).1 (eR69).2.1 h0) = true := by kernel_rfl
theorem runR70 : pureOk 1000 (eR70).2.2 (call Tryz.prog (cx []) 20000 (eR70).1 (eR70).2.1 h0) = true := by kernel_rfl
theorem runR71 : pureOk 1000 (eR71).2.2 (call Tryz.prog (cx []) 20000 (eR71).1 (eR71).2.1 h0) = true := by kernel_rfl
theorem runR72 : pureOk 1000 (eR72).2.2 (call Tryz.prog (cx [eR62]) 20000 (eR72).1 (eR72).2.1 h0) = true := by kernel_rfl
theorem runR73 : pureOk 1000 (eR73).2.2 (call Tryz.prog (cx [eR62]) 20000 (eR73).1 (eR73).2.1 h0) = true := by kernel_rfl
theorem runR74 : pureOk 1000 (eR74).2.2 (call Tryz.prog (cx [eR62]) 20000 (eR74).1 (eR74).2.1 h0) = true := by kernel_rfl
theorem runR75 : pureOk 1000 (eR75).2.2 (call Tryz.prog (cx [eR62]) 20000 (eR75).1 (eR75).2.1 h0) = true := by kernel_rfl
theorem runR76 : pureOk 1000 (eR76).2.2 (call Tryz.prog (cx [eR62]) 20000 (eR76).1 (eR76).2.1 h0) = true := by kernel_rfl
theorem runR77 : pureOk 1000 (eR77).2.2 (call Tryz.prog (cx [eR62]) 20000 (eR77).1 (eR77).2.1 h0) = true := by kernel_rfl
theorem runR78 : pureOk 1000 (eR78).2.2 (call Tryz.prog (cx [eR62]) 20000 (eR78).1 (eR78).2.1 h0) = true := by kernel_rfl
theorem runR79 : pureOk 1000 (eR79).2.2 (call Tryz.prog (cx [eR62]) 20000 (eR79).1 (eR79).2.1 h0) = true := by kernel_rfl
theorem runR80 : pureOk 1000 (eR80).2.2 (call Tryz.prog (cx [eR62]) 20000 (eR80).1 (eR80).2.1 h0) = true := by kernel_rfl
theorem runR81 : pureOkN 1000 (eR81).2.2 (callAll Tryz.prog (cx [eR33, eR40, eR47, eR56, eR59, eR60, eR61, eR63, eR64, eR65, eR66, eR67, eR68, eR69, eR70, eR71, eR72, eR73, eR74, eR75, eR76, eR77, eR78, eR79, eR80]) nkR 20000 (eR81).1 (eR81).2.1) = true := by kernel_rfl
theorem runR82 : pureOk 1000 (eR82).2.2 (call Tryz.prog (cx [eR33, eR40, eR47, eR56, eR59]) 20000 (eR82).1 (eR82).2.1 h0) = true := by kernel_rfl
theorem runR83 : pureOk 1000 (eR83).2.2 (call Tryz.prog (cx []) 20000 (eR83).1 (eR83).2.1 h0) = true := by kernel_rfl
theorem runR84 : pureOk 1000 (eR84).2.2 (call Tryz.prog (cx [eR83]) 20000 (eR84).1 (eR84).2.1 h0) = true := by kernel_rfl
end Go.Proofs.YtmmjfmbpilfehaaGreatDoor
