/- SolveNames: calls, as the abstract machine reckons them, part 17. -/
import Derived.Test.YtnpknclpnogagaaGreatDoorWV
namespace Go.Proofs.YtnpknclpnogagaaGreatDoor
open Go.Ax
theorem prunW23 : toldOk (pW23).2.2.2 (callAllH Tryz.prog (cx [eW240, eW241, eW243, eW244, eW245, eW246]) (nkW []) 20000 (pW23).1 (pW23).2.1 (pW23).2.2.1) = true := by kernel_rfl
theorem prunW24 : toldOk (pW24).2.2.2 (callAllH Tryz.prog (cx [eW240, eW241, eW243, eW244, eW245, eW246]) (nkW []) 20000 (pW24).1 (pW24).2.1 (pW24).2.2.1) = true := by kernel_rfl
theorem prunW25 : toldOk (pW25).2.2.2 (callAllH Tryz.prog (cx [eW240, eW241, eW243, eW244, eW245, eW246]) (nkW []) 20000 (pW25).1 (pW25).2.1 (pW25).2.2.1) = true := by kernel_rfl
theorem prunW26 : toldOk (pW26).2.2.2 (callAllH Tryz.prog (cx [eW240, eW241, eW243, eW244, eW245, eW246]) (nkW []) 20000 (pW26).1 (pW26).2.1 (pW26).2.2.1) = true := by kernel_rfl
theorem prunW27 : toldOk (pW27).2.2.2 (callAllH Tryz.prog (cx [eW240, eW249, eW251, eW252, eW253]) (nkW []) 20000 (pW27).1 (pW27).2.1 (pW27).2.2.1) = true := by kernel_rfl
theorem prunW28 : toldOk (pW28).2.2.2 (callAllH Tryz.prog (cx [eW240, eW249, eW251, eW252, eW253]) (nkW []) 20000 (pW28).1 (pW28).2.1 (pW28).2.2.1) = true := by kernel_rfl
end Go.Proofs.YtnpknclpnogagaaGreatDoor
