/- SolveNames: calls, as the abstract machine reckons them, part 23. -/
import Derived.Test.YtnpknclpnogagaaGreatDoorWV
namespace Go.Proofs.YtnpknclpnogagaaGreatDoor
open Go.Ax
theorem prunW47 : toldOk (pW47).2.2.2 (callAllH Tryz.prog (cx [eW240, eW241, eW243, eW244, eW245, eW246]) (nkW []) 20000 (pW47).1 (pW47).2.1 (pW47).2.2.1) = true := by kernel_rfl
theorem prunW48 : toldOk (pW48).2.2.2 (callAllH Tryz.prog (cx [eW240, eW241, eW243, eW244, eW245, eW246]) (nkW []) 20000 (pW48).1 (pW48).2.1 (pW48).2.2.1) = true := by kernel_rfl
theorem prunW49 : toldOk (pW49).2.2.2 (callAllH Tryz.prog (cx [eW240, eW241, eW243, eW244, eW245, eW246]) (nkW []) 20000 (pW49).1 (pW49).2.1 (pW49).2.2.1) = true := by kernel_rfl
theorem prunW50 : toldOk (pW50).2.2.2 (callAllH Tryz.prog (cx [eW240, eW241, eW243, eW244, eW245, eW246]) (nkW []) 20000 (pW50).1 (pW50).2.1 (pW50).2.2.1) = true := by kernel_rfl
end Go.Proofs.YtnpknclpnogagaaGreatDoor
