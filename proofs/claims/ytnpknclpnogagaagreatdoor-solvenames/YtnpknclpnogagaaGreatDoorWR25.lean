/- SolveNames: calls, as the abstract machine reckons them, part 25. -/
import Derived.Test.YtnpknclpnogagaaGreatDoorWV
namespace Go.Proofs.YtnpknclpnogagaaGreatDoor
open Go.Ax
theorem prunW55 : toldOk (pW55).2.2.2 (callAllH Tryz.prog (cx [eW240, eW241, eW243, eW244, eW245, eW246]) (nkW []) 20000 (pW55).1 (pW55).2.1 (pW55).2.2.1) = true := by kernel_rfl
theorem prunW56 : toldOk (pW56).2.2.2 (callAllH Tryz.prog (cx [eW240, eW241, eW243, eW244, eW245, eW246]) (nkW []) 20000 (pW56).1 (pW56).2.1 (pW56).2.2.1) = true := by kernel_rfl
theorem prunW57 : toldOk (pW57).2.2.2 (callAllH Tryz.prog (cx [eW240, eW241, eW243, eW244, eW245, eW246]) (nkW []) 20000 (pW57).1 (pW57).2.1 (pW57).2.2.1) = true := by kernel_rfl
theorem prunW58 : toldOk (pW58).2.2.2 (callAllH Tryz.prog (cx [eW240, eW241, eW243, eW244, eW245, eW246]) (nkW []) 20000 (pW58).1 (pW58).2.1 (pW58).2.2.1) = true := by kernel_rfl
theorem prunW59 : toldOk (pW59).2.2.2 (callAllH Tryz.prog (cx [eW240, eW249, eW251, eW252, eW253]) (nkW []) 20000 (pW59).1 (pW59).2.1 (pW59).2.2.1) = true := by kernel_rfl
theorem prunW60 : toldOk (pW60).2.2.2 (callAllH Tryz.prog (cx [eW240, eW249, eW251, eW252, eW253]) (nkW []) 20000 (pW60).1 (pW60).2.1 (pW60).2.2.1) = true := by kernel_rfl
end Go.Proofs.YtnpknclpnogagaaGreatDoor
