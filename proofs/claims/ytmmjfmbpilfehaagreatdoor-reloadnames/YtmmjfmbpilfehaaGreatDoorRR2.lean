/- ReloadNames: calls, as the abstract machine reckons them, part 2. -/
import Derived.Test.YtmmjfmbpilfehaaGreatDoorRV
namespace Go.Proofs.YtmmjfmbpilfehaaGreatDoor
open Go.Ax
theorem runR30 : pureOk 1000 (eR30).2.2 (call Tryz.prog (cx [eR0, eR3, eR4, eR6, eR9, eR10, eR11, eR12, eR15, eR16, eR17, eR18, eR19, eR20, eR21, eR24, eR25, eR26, eR27, eR28, eR29]) 20000 (eR30).1 (eR30).2.1 h0) = true := by kernel_rfl
theorem runR31 : pureOk 1000 (eR31).2.2 (call Tryz.prog (cx []) 20000 (eR31).1 (eR31).2.1 h0) = true := by kernel_rfl
theorem runR32 : pureOk 1000 (eR32).2.2 (call Tryz.prog (cx [eR31]) 20000 (eR32).1 (eR32).2.1 h0) = true := by kernel_rfl
theorem runR33 : pureOk 1000 (eR33).2.2 (call Tryz.prog (cx [eR32]) 20000 (eR33).1 (eR33).2.1 h0) = true := by kernel_rfl
theorem runR34 : pureOk 1000 (eR34).2.2 (call Tryz.prog (cx [eR33]) 20000 (eR34).1 (eR34).2.1 h0) = true := by kernel_rfl
theorem runR35 : pureOk 1000 (eR35).2.2 (call Tryz.prog (cx [eR33]) 20000 (eR35).1 (eR35).2.1 h0) = true := by kernel_rfl
theorem runR36 : pureOk 1000 (eR36).2.2 (call Tryz.prog (cx [eR34, eR35]) 20000 (eR36).1 (eR36).2.1 h0) = true := by kernel_rfl
theorem runR37 : pureOk 1000 (eR37).2.2 (call Tryz.prog (cx [eR33]) 20000 (eR37).1 (eR37).2.1 h0) = true := by kernel_rfl
theorem runR38 : pureOk 1000 (eR38).2.2 (call Tryz.prog (cx []) 20000 (eR38).1 (eR38).2.1 h0) = true := by kernel_rfl
theorem runR39 : pureOk 1000 (eR39).2.2 (call Tryz.prog (cx []) 20000 (eR39).1 (eR39).2.1 h0) = true := by kernel_rfl
theorem runR40 : pureOk 1000 (eR40).2.2 (call Tryz.prog (cx [eR32]) 20000 (eR40).1 (eR40).2.1 h0) = true := by kernel_rfl
theorem runR41 : pureOk 1000 (eR41).2.2 (call Tryz.prog (cx [eR40]) 20000 (eR41).1 (eR41).2.1 h0) = true := by kernel_rfl
end Go.Proofs.YtmmjfmbpilfehaaGreatDoor
