/- SolveNames: calls, as the abstract machine reckons them, part 21. -/
import Derived.Test.YtnpknclpnogagaaGreatDoorWV
namespace Go.Proofs.YtnpknclpnogagaaGreatDoor
open Go.Ax
theorem prunW39 : toldOk (pW39).2.2.2 (callAllH Tryz.prog (cx [eW240, eW241, eW243, eW244, eW245, eW246]) (nkW []) 20000 (pW39).1 (pW39).2.1 (pW39).2.2.1) = true := by kernel_rfl
theorem prunW40 : toldOk (pW40).2.2.2 (callAllH Tryz.prog (cx [eW240, eW241, eW243, eW244, eW245, eW246]) (nkW []) 20000 (pW40).1 (pW40).2.1 (pW40).2.2.1) = true := by kernel_rfl
theorem prunW41 : toldOk (pW41).2.2.2 (callAllH Tryz.prog (cx [eW240, eW241, eW243, eW244, eW245, eW246]) (nkW []) 20000 (pW41).1 (pW41).2.1 (pW41).2.2.1) = true := by kernel_rfl
theorem prunW42 : toldOk (pW42).2.2.2 (callAllH Tryz.prog (cx [eW240, eW241, eW243, eW244, eW245, eW246]) (nkW []) 20000 (pW42).1 (pW42).2.1 (pW42).2.2.1) = true := by kernel_rfl
end Go.Proofs.YtnpknclpnogagaaGreatDoor
