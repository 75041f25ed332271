/- SolveNames: calls, as the abstract machine reckons them, part 16. -/
import Derived.Test.YtnpknclpnogagaaGreatDoorWV
namespace Go.Proofs.YtnpknclpnogagaaGreatDoor
open Go.Ax
theorem prunW19 : toldOk (pW19).2.2.2 (callAllH Tryz.prog (cx [eW240, eW241, eW243, eW244, eW245, eW246]) (nkW []) 20000 (pW19).1 (pW19).2.1 (pW19).2.2.1) = true := by kernel_rfl
theorem prunW20 : toldOk (pW20).2.2.2 (callAllH Tryz.prog (cx [eW240, eW241, eW243, eW244, eW245, eW246]) (nkW []) 20000 (pW20).1 (pW20).2.1 (pW20).2.2.1) = true := by kernel_rfl
theorem prunW21 : toldOk (pW21).2.2.2 (callAllH Tryz.prog (cx [eW240, eW241, eW243, eW244, eW245, eW246]) (nkW []) 20000 (pW21).1 (pW21).2.1 (pW21).2.2.1) = true := by kernel_rfl
theorem prunW22 : toldOk (pW22).2.2.2 (callAllH Tryz.prog (cx [eW240, eW241, eW243, eW244, eW245, eW246]) (nkW []) 20000 (pW22).1 (pW22).2.1 (pW22).2.2.1) = true := by kernel_rfl
end Go.Proofs.YtnpknclpnogagaaGreatDoor
