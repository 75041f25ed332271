/- CallsNames: calls, as the abstract machine reckons them, part 2. -/
import Derived.Test.YtifgafdcadffiaaGreatDoorCV
namespace Go.Proofs.YtifgafdcadffiaaGreatDoor
open Go.Ax
theorem runC32 : pureOk 1000 (eC32).2.2 (call Tryz.prog (cx [eC0, eC1, eC3, eC4, eC6, eC7, eC8, eC9, eC10, eC11, eC12, eC13, eC16, eC17, eC18, eC19, eC20, eC21, eC22, eC25, eC28, eC29, eC30, eC31]) 20000 (eC32).1 (eC32).2.1 h0) = true := by kernel_rfl
theorem runC33 : pureOk 1000 (eC33).2.2 (call Tryz.prog (cx []) 20000 (eC33).1 (eC33).2.1 h0) = true := by kernel_rfl
theorem runC34 : pureOk 1000 (eC34).2.2 (call Tryz.prog (cx [eC33]) 20000 (eC34).1 (eC34).2.1 h0) = true := by kernel_rfl
theorem runC35 : pureOk 1000 (eC35).2.2 (call Tryz.prog (cx [eC34]) 20000 (eC35).1 (eC35).2.1 h0) = true := by kernel_rfl
theorem runC36 : pureOk 1000 (eC36).2.2 (call Tryz.prog (cx [eC35]) 20000 (eC36).1 (eC36).2.1 h0) = true := by kernel_rfl
theorem runC37 : pureOk 1000 (eC37).2.2 (call Tryz.prog (cx [eC35]) 20000 (eC37).1 (eC37).2.1 h0) = true := by kernel_rfl
theorem runC38 : pureOk 1000 (eC38).2.2 (call Tryz.prog (cx [eC36, eC37]) 20000 (eC38).1 (eC38).2.1 h0) = true := by kernel_rfl
theorem runC39 : pureOk 1000 (eC39).2.2 (call Tryz.prog (cx [eC35]) 20000 (eC39).1 (eC39).2.1 h0) = true := by kernel_rfl
theorem runC40 : pureOk 1000 (eC40).2.2 (call Tryz.prog (cx []) 20000 (eC40).1 (eC40).2.1 h0) = true := by kernel_rfl
theorem runC41 : pureOk 1000 (eC41).2.2 (call Tryz.prog (cx []) 20000 (eC41).1 (eC41).2.1 h0) = true := by kernel_rfl
end Go.Proofs.YtifgafdcadffiaaGreatDoor
