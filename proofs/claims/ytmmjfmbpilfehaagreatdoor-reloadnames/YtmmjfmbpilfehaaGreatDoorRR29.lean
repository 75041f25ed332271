/- ReloadNames: calls, as the abstract machine reckons them, part 29. -/
import Derived.Test.YtmmjfmbpilfehaaGreatDoorRV
namespace Go.Proofs.YtmmjfmbpilfehaaGreatDoor
open Go.Ax
theorem runR357 : pureOk 1000 (eR357).2.2 (call Tryz.prog (cx [eR18, eR20, eR46, eR99, eR165]) 20000 (eR357).1 (eR357).2.1 h0) = true := by kernel_rfl
theorem runR358 : pureOk 1000 (eR358).2.2 (call Tryz.prog (cx [eR31]) 20000 (eR358).1 (eR358).2.1 h0) = true := by kernel_rfl
theorem runR359 : pureOk 1000 (eR359).2.2 (call Tryz.prog (cx [eR358]) 20000 (eR359).1 (eR359).2.1 h0) = true := by kernel_rfl
theorem runR360 : pureOk 1000 (eR360).2.2 (call Tryz.prog (cx [eR18, eR20, eR45, eR110, eR165, eR359]) 20000 (eR360).1 (eR360).2.1 h0) = true := by kernel_rfl
theorem runR361 : pureOk 1000 (eR361).2.2 (call Tryz.prog (cx [eR31]) 20000 (eR361).1 (eR361).2.1 h0) = true := by kernel_rfl
theorem runR362 : pureOk 1000 (eR362).2.2 (call Tryz.prog (cx [eR361]) 20000 (eR362).1 (eR362).2.1 h0) = true := by kernel_rfl
theorem runR363 : pureOk 1000 (eR363).2.2 (call Tryz.prog (cx [eR362]) 20000 (eR363).1 (eR363).2.1 h0) = true := by kernel_rfl
theorem runR364 : pureOk 1000 (eR364).2.2 (call Tryz.prog (cx [eR362]) 20000 (eR364).1 (eR364).2.1 h0) = true := by kernel_rfl
theorem runR365 : pureOk 1000 (eR365).2.2 (call Tryz.prog (cx [eR363, eR364]) 20000 (eR365).1 (eR365).2.1 h0) = true := by kernel_rfl
theorem runR366 : pureOk 1000 (eR366).2.2 (call Tryz.prog (cx [eR362]) 20000 (eR366).1 (eR366).2.1 h0) = true := by kernel_rfl
theorem runR367 : pureOk 1000 (eR367).2.2 (call Tryz.prog (cx [eR361]) 20000 (eR367).1 (eR367).2.1 h0) = true := by kernel_rfl
theorem runR368 : pureOk 1000 (eR368).2.2 (call Tryz.prog (cx [eR367]) 20000 (eR368).1 (eR368).2.1 h0) = true := by kernel_rfl
theorem runR369 : pureOk 1000 (eR369).2.2 (call Tryz.prog (cx [eR367]) 20000 (eR369).1 (eR369).2.1 h0) = true := by kernel_rfl
theorem runR370 : pureOk 1000 (eR370).2.2 (call Tryz.prog (cx [eR368, eR369]) 20000 (eR370).1 (eR370).2.1 h0) = true := by kernel_rfl
theorem runR371 : pureOk 1000 (eR371).2.2 (call Tryz.prog (cx [eR367]) 20000 (eR371).1 (eR371).2.1 h0) = true := by kernel_rfl
theorem runR372 : pureOk 1000 (eR372).2.2 (call Tryz.prog (cx [eR361]) 20000 (eR372).1 (eR372).2.1 h0) = true := by kernel_rfl
theorem runR373 : pureOk 1000 (eR373).2.2 (call Tryz.prog (cx [eR372]) 20000 (eR373).1 (eR373).2.1 h0) = true := by kernel_rfl
theorem runR374 : pureOk 1000 (eR374).2.2 (call Tryz.prog (cx [eR372]) 20000 (eR374).1 (eR374).2.1 h0) = true := by kernel_rfl
theorem runR375 : pureOk 1000 (eR375).2.2 (call Tryz.prog (cx [eR373, eR374]) 20000 (eR375).1 (eR375).2.1 h0) = true := by kernel_rfl
end Go.Proofs.YtmmjfmbpilfehaaGreatDoor
