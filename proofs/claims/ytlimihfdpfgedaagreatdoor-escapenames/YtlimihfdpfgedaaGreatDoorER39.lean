/- EscapeNames: calls, as the abstract machine reckons them, part 39. -/
import Derived.Test.YtlimihfdpfgedaaGreatDoorEV
namespace Go.Proofs.YtlimihfdpfgedaaGreatDoor
open Go.Ax
theorem prunE5 : toldOk (pE5).2.2.2 (callAllH Tryz.prog (cx [eE388, eE389, eE390, eE391, eE392, eE393, eE394, eE395, eE396, eE397, eE398, eE399, eE400, eE401, eE402, eE403, eE404, eE405, eE406, eE407, eE408, eE409, eE410, eE411]) (nkE []) 20000 (pE5).1 (pE5).2.1 (pE5).2.2.1) = true := by kernel_rfl
theorem prunE6 : toldOk (pE6).2.2.2 (callAllH Tryz.prog (cx [eE388, eE389, eE390, eE391, eE392, eE393, eE394, eE395, eE396, eE397, eE398, eE399, eE400, eE401, eE402, eE403, eE404, eE405, eE406, eE407, eE408, eE409, eE410, eE411]) (nkE []) 20000 (pE6).1 (pE6).2.1 (pE6).2.2.1) = true := by kernel_rfl
theorem prunE7 : toldOk (pE7).2.2.2 (callAllH Tryz.prog (cx [eE442, eE443, eE444, eE445, eE446, eE447]) (nkE []) 20000 (pE7).1 (pE7).2.1 (pE7).2.2.1) = true := by kernel_rfl
theorem prunE8 : toldOk (pE8).2.2.2 (callAllH Tryz.prog (cx [eE442, eE443, eE444, eE445, eE446, eE447]) (nkE []) 20000 (pE8).1 (pE8).2.1 (pE8).2.2.1) = true := by kernel_rfl
theorem prunE9 : toldOk (pE9).2.2.2 (callAllH Tryz.prog (cx [eE442, eE443, eE444, eE445, eE446, eE447]) (nkE []) 20000 (pE9).1 (pE9).2.1 (pE9).2.2.1) = true := by kernel_rfl
end Go.Proofs.YtlimihfdpfgedaaGreatDoor
