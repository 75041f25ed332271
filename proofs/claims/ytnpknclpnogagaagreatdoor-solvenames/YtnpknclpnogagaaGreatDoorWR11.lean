/- SolveNames: calls, as the abstract machine reckons them, part 11. -/
import Derived.Test.YtnpknclpnogagaaGreatDoorWV
namespace Go.Proofs.YtnpknclpnogagaaGreatDoor
open Go.Ax
theorem prunW2 : toldOk (pW2).2.2.2 (callAllH Tryz.prog (cx [eW86, eW230, eW231, eW233, eW234, eW235, eW236, eW237]) (nkW []) 20000 (pW2).1 (pW2).2.1 (pW2).2.2.1) = true := by kernel_rfl
end Go.Proofs.YtnpknclpnogagaaGreatDoor
