/- SolveNames: calls, as the abstract machine reckons them, part 15. -/
import Derived.Test.YtnpknclpnogagaaGreatDoorWV
namespace Go.Proofs.YtnpknclpnogagaaGreatDoor
open Go.Ax
theorem prunW15 : toldOk (pW15).2.2.2 (callAllH Tryz.prog (cx [eW240, eW241, eW243, eW244, eW245, eW246]) (nkW []) 20000 (pW15).1 (pW15).2.1 (pW15).2.2.1) = true := by kernel_rfl
theorem prunW16 : toldOk (pW16).2.2.2 (callAllH Tryz.prog (cx [eW240, eW241, eW243, eW244, eW245, eW246]) (nkW []) 20000 (pW16).1 (pW16).2.1 (pW16).2.2.1) = true := by kernel_rfl
theorem prunW17 : toldOk (pW17).2.2.2 (callAllH Tryz.prog (cx [eW240, eW241, eW243, eW244, eW245, eW246]) (nkW []) 20000 (pW17).1 (pW17).2.1 (pW17).2.2.1) = true := by kernel_rfl
theorem prunW18 : toldOk (pW18).2.2.2 (callAllH Tryz.prog (cx [eW240, eW241, eW243, eW244, eW245, eW246]) (nkW []) 20000 (pW18).1 (pW18).2.1 (pW18).2.2.1) = true := by kernel_rfl
end Go.Proofs.YtnpknclpnogagaaGreatDoor
