/- SolveNames: calls, as the abstract machine reckons them, part 22. -/
import Derived.Test.YtnpknclpnogagaaGreatDoorWV
namespace Go.Proofs.YtnpknclpnogagaaGreatDoor
open Go.Ax
theorem prunW43 : toldOk (pW43).2.2.2 (callAllH Tryz.prog (cx [eW240, eW241, eW243, eW244, eW245, eW246]) (nkW []) 20000 (pW43).1 (pW43).2.1 (pW43).2.2.1) = true := by kernel_rfl
theorem prunW44 : toldOk (pW44).2.2.2 (callAllH Tryz.prog (cx [eW240, eW241, eW243, eW244, eW245, eW246]) (nkW []) 20000 (pW44).1 (pW44).2.1 (pW44).2.2.1) = true := by kernel_rfl
theorem prunW45 : toldOk (pW45).2.2.2 (callAllH Tryz.prog (cx [eW240, eW241, eW243, eW244, eW245, eW246]) (nkW []) 20000 (pW45).1 (pW45).2.1 (pW45).2.2.1) = true := by kernel_rfl
theorem prunW46 : toldOk (pW46).2.2.2 (callAllH Tryz.prog (cx [eW240, eW241, eW243, eW244, eW245, eW246]) (nkW []) 20000 (pW46).1 (pW46).2.1 (pW46).2.2.1) = true := by kernel_rfl
end Go.Proofs.YtnpknclpnogagaaGreatDoor
