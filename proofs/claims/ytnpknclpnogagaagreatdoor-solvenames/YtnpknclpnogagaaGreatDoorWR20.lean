/- SolveNames: calls, as the abstract machine reckons them, part 20. -/
import Derived.Test.YtnpknclpnogagaaGreatDoorWV
namespace Go.Proofs.YtnpknclpnogagaaGreatDoor
open Go.Ax
theorem prunW35 : toldOk (pW35).2.2.2 (callAllH Tryz.prog (cx [eW240, eW241, eW243, eW244, eW245, eW246]) (nkW []) 20000 (pW35).1 (pW35).2.1 (pW35).2.2.1) = true := by kernel_rfl
theorem prunW36 : toldOk (pW36).2.2.2 (callAllH Tryz.prog (cx [eW240, eW241, eW243, eW244, eW245, eW246]) (nkW []) 20000 (pW36).1 (pW36).2.1 (pW36).2.2.1) = true := by kernel_rfl
theorem prunW37 : toldOk (pW37).2.2.2 (callAllH Tryz.prog (cx [eW240, eW241, eW243, eW244, eW245, eW246]) (nkW []) 20000 (pW37).1 (pW37).2.1 (pW37).2.2.1) = true := by kernel_rfl
theorem prunW38 : toldOk (pW38).2.2.2 (callAllH Tryz.prog (cx [eW240, eW241, eW243, eW244, eW245, eW246]) (nkW []) 20000 (pW38).1 (pW38).2.1 (pW38).2.2.1) = true := by kernel_rfl
end Go.Proofs.YtnpknclpnogagaaGreatDoor
