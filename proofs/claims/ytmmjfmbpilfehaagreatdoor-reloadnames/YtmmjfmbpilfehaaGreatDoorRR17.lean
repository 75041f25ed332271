/- ReloadNames: calls, as the abstract machine reckons them, part 17. -/
import Derived.Test.YtmmjfmbpilfehaaGreatDoorRV
namespace Go.Proofs.YtmmjfmbpilfehaaGreatDoor
open Go.Ax
theorem runR221 : pureOk 1000 (eR221).2.2 (call Tryz.prog (cx [eR220]) 20000 (eR221).1 (eR221).2.1 h0) = true := by kernel_rfl
theorem runR222 : pureOk 1000 (eR222).2.2 (call Tryz.prog (cx []) 20000 (eR222).1 (eR222).2.1 h0) = true := by kernel_rfl
theorem runR223 : pureOk 1000 (eR223).2.2 (call Tryz.prog (cx [eR222]) 20000 (eR223).1 (eR223).2.1 h0) = true := by kernel_rfl
theorem runR224 : pureOk 1000 (eR224).2.2 (call Tryz.prog (cx [eR223]) 20000 (eR224).1 (eR224).2.1 h0) = true := by kernel_rfl
theorem runR225 : pureOk 1000 (eR225).2.2 (call Tryz.prog (cx [eR3, eR4, eR6, eR9, eR10, eR11, eR12, eR13, eR16, eR17, eR18, eR19, eR20, eR21, eR24, eR25, eR26, eR148, eR149, eR218, eR221, eR224]) 20000 (eR225).1 (eR225).2.1 h0) = true := by kernel_rfl
theorem runR226 : pureOk 1000 (eR226).2.2 (call Tryz.prog (cx [eR31]) 20000 (eR226).1 (eR226).2.1 h0) = true := by kernel_rfl
theorem runR227 : pureOk 1000 (eR227).2.2 (call Tryz.prog (cx [eR226]) 20000 (eR227).1 (eR227).2.1 h0) = true := by kernel_rfl
theorem runR228 : pureOk 1000 (eR228).2.2 (call Tryz.prog (cx [eR227]) 20000 (eR228).1 (eR228).2.1 h0) = true := by kernel_rfl
theorem runR229 : pureOk 1000 (eR229).2.2 (call Tryz.prog (cx [eR227]) 20000 (eR229).1 (eR229).2.1 h0) = true := by kernel_rfl
theorem runR230 : pureOk 1000 (eR230).2.2 (call Tryz.prog (cx [eR228, eR229]) 20000 (eR230).1 (eR230).2.1 h0) = true := by kernel_rfl
theorem runR231 : pureOk 1000 (eR231).2.2 (call Tryz.prog (cx [eR227]) 20000 (eR231).1 (eR231).2.1 h0) = true := by kernel_rfl
end Go.Proofs.YtmmjfmbpilfehaaGreatDoor
