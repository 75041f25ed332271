/- SolveNames: calls, as the abstract machine reckons them, part 13. -/
import Derived.Test.YtnpknclpnogagaaGreatDoorWV
namespace Go.Proofs.YtnpknclpnogagaaGreatDoor
open Go.Ax
theorem prunW7 : toldOk (pW7).2.2.2 (callAllH Tryz.prog (cx [eW240, eW241, eW243, eW244, eW245, eW246]) (nkW []) 20000 (pW7).1 (pW7).2.1 (pW7).2.2.1) = true := by kernel_rfl
theorem prunW8 : toldOk (pW8).2.2.2 (callAllH Tryz.prog (cx [eW240, eW241, eW243, eW244, eW245, eW246]) (nkW []) 20000 (pW8).1 (pW8).2.1 (pW8).2.2.1) = true := by kernel_rfl
theorem prunW9 : toldOk (pW9).2.2.2 (callAllH Tryz.prog (cx [eW240, eW241, eW243, eW244, eW245, eW246]) (nkW []) 20000 (pW9).1 (pW9).2.1 (pW9).2.2.1) = true := by kernel_rfl
theorem prunW10 : toldOk (pW10).2.2.2 (callAllH Tryz.prog (cx [eW240, eW241, eW243, eW244, eW245, eW246]) (nkW []) 20000 (pW10).1 (pW10).2.1 (pW10).2.2.1) = true := by kernel_rfl
end Go.Proofs.YtnpknclpnogagaaGreatDoor
