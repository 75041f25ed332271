/- SolveNames: calls, as the abstract machine reckons them, part 24. -/
import Derived.Test.YtnpknclpnogagaaGreatDoorWV
namespace Go.Proofs.YtnpknclpnogagaaGreatDoor
open Go.Ax
theorem prunW51 : toldOk (pW51).2.2.2 (callAllH Tryz.prog (cx [eW240, eW241, eW243, eW244, eW245, eW246]) (nkW []) 20000 (pW51).1 (pW51).2.1 (pW51).2.2.1) = true := by kernel_rfl
theorem prunW52 : toldOk (pW52).2.2.2 (callAllH Tryz.prog (cx [eW240, eW241, eW243, eW244, eW245, eW246]) (nkW []) 20000 (pW52).1 (pW52).2.1 (pW52).2.2.1) = true := by kernel_rfl
theorem prunW53 : toldOk (pW53).2.2.2 (callAllH Tryz.prog (cx [eW240, eW241, eW243, eW244, eW245, eW246]) (nkW []) 20000 (pW53).1 (pW53).2.1 (pW53).2.2.1) = true := by kernel_rfl
theorem prunW54 : toldOk (pW54).2.2.2 (callAllH Tryz.prog (cx [eW240, eW241, eW243, eW244, eW245, eW246]) (nkW []) 20000 (pW54).1 (pW54).2.1 (pW54).2.2.1) = true := by kernel_rfl
end Go.Proofs.YtnpknclpnogagaaGreatDoor
