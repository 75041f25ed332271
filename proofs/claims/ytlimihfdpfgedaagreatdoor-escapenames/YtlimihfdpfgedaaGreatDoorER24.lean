/- EscapeNames: calls, as the abstract machine reckons them, part 24. -/
import Derived.Test.YtlimihfdpfgedaaGreatDoorEV
namespace Go.Proofs.YtlimihfdpfgedaaGreatDoor
open Go.Ax
theorem runE314 : pureOkN 1000 (eE314).2.2 (callAll Tryz.prog (cx [eE43, eE46, eE51, eE55, eE56, eE58, eE59, eE154, eE164, eE170, eE171, eE172, eE174, eE175, eE176, eE177, eE178, eE179, eE180, eE181, eE182, eE183, eE184, eE185, eE186, eE187, eE188, eE309, eE310, eE311, eE312, eE313]) (nkE [pE0, pE1, pE2, pE3]) 20000 (eE314).1 (eE314).2.1) = true := by kernel_rfl
theorem runE315 : pureOk 1000 (eE315).2.2 (call Tryz.prog (cx [eE43, eE46, eE154, eE164, eE170]) 20000 (eE315).1 (eE315).2.1 h0) = true := by kernel_rfl
theorem runE316 : pureOk 1000 (eE316).2.2 (call Tryz.prog (cx [eE314, eE315]) 20000 (eE316).1 (eE316).2.1 h0) = true := by kernel_rfl
theorem runE317 : pureOk 1000 (eE317).2.2 (call Tryz.prog (cx [eE43, eE46, eE154, eE164, eE170]) 20000 (eE317).1 (eE317).2.1 h0) = true := by kernel_rfl
theorem runE318 : pureOk 1000 (eE318).2.2 (call Tryz.prog (cx []) 20000 (eE318).1 (eE318).2.1 h0) = true := by kernel_rfl
theorem runE319 : pureOk 1000 (eE319).2.2 (call Tryz.prog (cx [eE318]) 20000 (eE319).1 (eE319).2.1 h0) = true := by kernel_rfl
theorem runE320 : pureOk 1000 (eE320).2.2 (call Tryz.prog (cx []) 20000 (eE320).1 (eE320).2.1 h0) = true := by kernel_rfl
theorem runE321 : pureOk 1000 (eE321).2.2 (call Tryz.prog (cx [eE320]) 20000 (eE321).1 (eE321).2.1 h0) = true := by kernel_rfl
theorem runE322 : pureOk 1000 (eE322).2.2 (call Tryz.prog (cx [eE43, eE46, eE72, eE74, eE154, eE164, eE170, eE314, eE316, eE317, eE319, eE321]) 20000 (eE322).1 (eE322).2.1 h0) = true := by kernel_rfl
end Go.Proofs.YtlimihfdpfgedaaGreatDoor
