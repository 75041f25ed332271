/- SolveNames: calls, as the abstract machine reckons them, part 12. -/
import Derived.Test.YtnpknclpnogagaaGreatDoorWV
namespace Go.Proofs.YtnpknclpnogagaaGreatDoor
open Go.Ax
theorem prunW3 : toldOk (pW3).2.2.2 (callAllH Tryz.prog (cx [eW240, eW241, eW243, eW244, eW245, eW246]) (nkW []) 20000 (pW3).1 (pW3).2.1 (pW3).2.2.1) = true := by kernel_rfl
theorem prunW4 : toldOk (pW4).2.2.2 (callAllH Tryz.prog (cx [eW240, eW241, eW243, eW244, eW245, eW246]) (nkW []) 20000 (pW4).1 (pW4).2.1 (pW4).2.2.1) = true := by kernel_rfl
theorem prunW5 : toldOk (pW5).2.2.2 (callAllH Tryz.prog (cx [eW240, eW241, eW243, eW244, eW245, eW246]) (nkW []) 20000 (pW5).1 (pW5).2.1 (pW5).2.2.1) = true := by kernel_rfl
theorem prunW6 : toldOk (pW6).2.2.2 (callAllH Tryz.prog (cx [eW240, eW241, eW243, eW244, eW245, eW246]) (nkW []) 20000 (pW6).1 (pW6).2.1 (pW6).2.2.1) = true := by kernel_rfl
end Go.Proofs.YtnpknclpnogagaaGreatDoor
