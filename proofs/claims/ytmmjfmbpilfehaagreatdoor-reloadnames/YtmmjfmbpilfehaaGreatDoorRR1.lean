/- ReloadNames: calls, as the abstract machine reckons them, part 1. -/
import Derived.Test.YtmmjfmbpilfehaaGreatDoorRV
namespace Go.Proofs.YtmmjfmbpilfehaaGreatDoor
open Go.Ax
theorem runR5 : pureOk 1000 (eR5).2.2 (call Tryz.prog (cx [eR4]) 20000 (eR5).1 (eR5).2.1 h0) = true := by kernel_rfl
theorem runR6 : pureOk 1000 (eR6).2.2 (call Tryz.prog (cx [eR5]) 20000 (eR6).1 (eR6).2.1 h0) = true := by kernel_rfl
theorem runR7 : pureOk 1000 (eR7).2.2 (call Tryz.prog (cx []) 20000 (eR7).1 (eR7).2.1 h0) = true := by kernel_rfl
theorem runR8 : pureOk 1000 (eR8).2.2 (call Tryz.prog (cx [eR7]) 20000 (eR8).1 (eR8).2.1 h0) = true := by kernel_rfl
theorem runR9 : pureOk 1000 (eR9).2.2 (call Tryz.prog (cx [eR8]) 20000 (eR9).1 (eR9).2.1 h0) = true := by kernel_rfl
theorem runR10 : pureOk 1000 (eR10).2.2 (call Tryz.prog (cx [eR2]) 20000 (eR10).1 (eR10).2.1 h0) = true := by kernel_rfl
theorem runR11 : pureOk 1000 (eR11).2.2 (call Tryz.prog (cx []) 20000 (eR11).1 (eR11).2.1 h0) = true := by kernel_rfl
theorem runR12 : pureOk 1000 (eR12).2.2 (call Tryz.prog (cx []) 20000 (eR12).1 (eR12).2.1 h0) = true := by kernel_rfl
theorem runR13 : pureOk 1000 (eR13).2.2 (call Tryz.prog (cx []) 20000 (eR13).1 (eR13).2.1 h0) = true := by kernel_rfl
theorem runR14 : pureOk 1000 (eR14).2.2 (call Tryz.prog (cx [eR13]) 20000 (eR14).1 (eR14).2.1 h0) = true := by kernel_rfl
theorem runR15 : pureOk 1000 (eR15).2.2 (call Tryz.prog (cx [eR14]) 20000 (eR15).1 (eR15).2.1 h0) = true := by kernel_rfl
theorem runR16 : pureOk 1000 (eR16).2.2 (call Tryz.prog (cx [eR8]) 20000 (eR16).1 (eR16).2.1 h0) = true := by kernel_rfl
theorem runR17 : pureOk 1000 (eR17).2.2 (call Tryz.prog (cx []) 20000 (eR17).1 (eR17).2.1 h0) = true := by kernel_rfl
theorem runR18 : pureOk 1000 (eR18).2.2 (call Tryz.prog (cx []) 20000 (eR18).1 (eR18).2.1 h0) = true := by kernel_rfl
theorem runR19 : pureOk 1000 (eR19).2.2 (call Tryz.prog (cx []) 20000 (eR19).1 (eR19).2.1 h0) = true := by kernel_rfl
theorem runR20 : pureOk 1000 (eR20).2.2 (call Tryz.prog (cx []) 20000 (eR20).1 (eR20).2.1 h0) = true := by kernel_rfl
theorem runR21 : pureOk 1000 (eR21).2.2 (call Tryz.prog (cx [eR5]) 20000 (eR21).1 (eR21).2.1 h0) = true := by kernel_rfl
theorem runR22 : pureOk 1000 (eR22).2.2 (call Tryz.prog (cx []) 20000 (eR22).1 (eR22).2.1 h0) = true := by kernel_rfl
theorem runR23 : pureOk 1000 (eR23).2.2 (call Tryz.prog (cx [eR22]) 20000 (eR23).1 (eR23).2.1 h0) = true := by kernel_rfl
theorem runR24 : pureOk 1000 (eR24).2.2 (call Tryz.prog (cx [eR23]) 20000 (eR24).1 (eR24).2.1 h0) = true := by kernel_rfl
theorem runR25 : pureOk 1000 (eR25).2.2 (call Tryz.prog (cx []) 20000 (eR25).1 (eR25).2.1 h0) = true := by kernel_rfl
theorem runR26 : pureOk 1000 (eR26).2.2 (call Tryz.prog (cx []) 20000 (eR26).1 (eR26).2.1 h0) = true := by kernel_rfl
theorem runR27 : pureOk 1000 (eR27).2.2 (call Tryz.prog (cx []) 20000 (eR27).1 (eR27).2.1 h0) = true := by kernel_rfl
theorem runR28 : pureOk 1000 (eR28).2.2 (call Tryz.prog (cx []) 20000 (eR28).1 (eR28).2.1 h0) = true := by kernel_rfl
theorem runR29 : pureOk 1000 (eR29).2.2 (call Tryz.prog (cx [eR5]) 20000 (eR29).1 (eR29).2.1 h0) = true := by kernel_rfl
end Go.Proofs.YtmmjfmbpilfehaaGreatDoor
