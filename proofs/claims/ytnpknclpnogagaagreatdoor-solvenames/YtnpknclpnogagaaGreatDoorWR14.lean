/- SolveNames: calls, as the abstract machine reckons them, part 14. -/
import Derived.Test.YtnpknclpnogagaaGreatDoorWV
namespace Go.Proofs.YtnpknclpnogagaaGreatDoor
open Go.Ax
theorem prunW11 : toldOk (pW11).2.2.2 (callAllH Tryz.prog (cx [eW240, eW241, eW243, eW244, eW245, eW246]) (nkW []) 20000 (pW11).1 (pW11).2.1 (pW11).2.2.1) = true := by kernel_rfl
theorem prunW12 : toldOk (pW12).2.2.2 (callAllH Tryz.prog (cx [eW240, eW241, eW243, eW244, eW245, eW246]) (nkW []) 20000 (pW12).1 (pW12).2.1 (pW12).2.2.1) = true := by kernel_rfl
theorem prunW13 : toldOk (pW13).2.2.2 (callAllH Tryz.prog (cx [eW240, eW241, eW243, eW244, eW245, eW246]) (nkW []) 20000 (pW13).1 (pW13).2.1 (pW13).2.2.1) = true := by kernel_rfl
theorem prunW14 : toldOk (pW14).2.2.2 (callAllH Tryz.prog (cx [eW240, eW241, eW243, eW244, eW245, eW246]) (nkW []) 20000 (pW14).1 (pW14).2.1 (pW14).2.2.1) = true := by kernel_rfl
end Go.Proofs.YtnpknclpnogagaaGreatDoor
