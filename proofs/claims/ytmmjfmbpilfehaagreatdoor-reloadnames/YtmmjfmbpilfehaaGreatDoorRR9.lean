/- ReloadNames: calls, as the abstract machine reckons them, part 9. -/
import Derived.Test.YtmmjfmbpilfehaaGreatDoorRV
namespace Go.Proofs.YtmmjfmbpilfehaaGreatDoor
open Go.Ax
theorem runR122 : pureOk 1000 (eR122).2.2 (call Tryz.prog (cx []) 20000 (eR122).1 (eR122).2.1 h0) = true := by kernel_rfl
theorem runR123 : pureOk 1000 (eR123).2.2 (call Tryz.prog (cx []) 20000 (eR123).1 (eR123).2.1 h0) = true := by kernel_rfl
theorem runR124 : pureOk 1000 (eR124).2.2 (call Tryz.prog (cx []) 20000 (eR124).1 (eR124).2.1 h0) = true := by kernel_rfl
theorem runR125 : pureOk 1000 (eR125).2.2 (call Tryz.prog (cx [eR115]) 20000 (eR125).1 (eR125).2.1 h0) = true := by kernel_rfl
theorem runR126 : pureOk 1000 (eR126).2.2 (call Tryz.prog (cx [eR115]) 20000 (eR126).1 (eR126).2.1 h0) = true := by kernel_rfl
theorem runR127 : pureOk 1000 (eR127).2.2 (call Tryz.prog (cx [eR115]) 20000 (eR127).1 (eR127).2.1 h0) = true := by kernel_rfl
theorem runR128 : pureOk 1000 (eR128).2.2 (call Tryz.prog (cx [eR115]) 20000 (eR128).1 (eR128).2.1 h0) = true := by kernel_rfl
theorem runR129 : pureOk 1000 (eR129).2.2 (call Tryz.prog (cx [eR115]) 20000 (eR129).1 (eR129).2.1 h0) = true := by kernel_rfl
theorem runR130 : pureOk 1000 (eR130).2.2 (call Tryz.prog (cx [eR115]) 20000 (eR130).1 (eR130).2.1 h0) = true := by kernel_rfl
theorem runR131 : pureOk 1000 (eR131).2.2 (call Tryz.prog (cx [eR115]) 20000 (eR131).1 (eR131).2.1 h0) = true := by kernel_rfl
theorem runR132 : pureOk 1000 (eR132).2.2 (call Tryz.prog (cx [eR115]) 20000 (eR132).1 (eR132).2.1 h0) = true := by kernel_rfl
theorem runR133 : pureOk 1000 (eR133).2.2 (call Tryz.prog (cx [eR115]) 20000 (eR133).1 (eR133).2.1 h0) = true := by kernel_rfl
theorem runR134 : pureOk 1000 (eR134).2.2 (call Tryz.prog (cx [eR115]) 20000 (eR134).1 (eR134).2.1 h0) = true := by kernel_rfl
theorem runR135 : pureOkN 1000 (eR135).2.2 (callAll Tryz.prog (cx [eR59, eR64, eR65, eR66, eR69, eR94, eR99, eR104, eR112, eR113, eR114, eR116, eR117, eR118, eR119, eR120, eR121, eR122, eR123, eR124, eR125, eR126, eR127, eR128, eR129, eR130, eR131, eR132, eR133, eR134]) nkR 20000 (eR135).1 (eR135).2.1) = true := by kernel_rfl
end Go.Proofs.YtmmjfmbpilfehaaGreatDoor
