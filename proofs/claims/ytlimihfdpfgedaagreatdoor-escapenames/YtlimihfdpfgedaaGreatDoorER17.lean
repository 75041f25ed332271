/- EscapeNames: calls, as the abstract machine reckons them, part 17. -/
import Derived.Test.YtlimihfdpfgedaaGreatDoorEV
namespace Go.Proofs.YtlimihfdpfgedaaGreatDoor
open Go.Ax
theorem runE253 : pureOk 1000 (eE253).2.2 (call Tryz.prog (cx []) 20000 (eE253).1 (eE253).2.1 h0) = true := by kernel_rfl
theorem runE254 : pureOk 1000 (eE254).2.2 (call Tryz.prog (cx []) 20000 (eE254).1 (eE254).2.1 h0) = true := by kernel_rfl
theorem runE255 : pureOk 1000 (eE255).2.2 (call Tryz.prog (cx []) 20000 (eE255).1 (eE255).2.1 h0) = true := by kernel_rfl
theorem runE256 : pureOk 1000 (eE256).2.2 (call Tryz.prog (cx []) 20000 (eE256).1 (eE256).2.1 h0) = true := by kernel_rfl
theorem runE257 : pureOk 1000 (eE257).2.2 (call Tryz.prog (cx []) 20000 (eE257).1 (eE257).2.1 h0) = true := by kernel_rfl
theorem runE258 : pureOk 1000 (eE258).2.2 (call Tryz.prog (cx []) 20000 (eE258).1 (eE258).2.1 h0) = true := by kernel_rfl
theorem runE259 : pureOk 1000 (eE259).2.2 (call Tryz.prog (cx []) 20000 (eE259).1 (eE259).2.1 h0) = true := by kernel_rfl
theorem runE260 : pureOk 1000 (eE260).2.2 (call Tryz.prog (cx []) 20000 (eE260).1 (eE260).2.1 h0) = true := by kernel_rfl
end Go.Proofs.YtlimihfdpfgedaaGreatDoor
