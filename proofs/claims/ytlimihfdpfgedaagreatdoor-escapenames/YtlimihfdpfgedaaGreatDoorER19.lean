/- EscapeNames: calls, as the abstract machine reckons them, part 19. -/
import Derived.Test.YtlimihfdpfgedaaGreatDoorEV
namespace Go.Proofs.YtlimihfdpfgedaaGreatDoor
open Go.Ax
theorem runE269 : pureOk 1000 (eE269).2.2 (call Tryz.prog (cx []) 20000 (eE269).1 (eE269).2.1 h0) = true := by kernel_rfl
theorem runE270 : pureOk 1000 (eE270).2.2 (call Tryz.prog (cx []) 20000 (eE270).1 (eE270).2.1 h0) = true := by kernel_rfl
theorem runE271 : pureOk 1000 (eE271).2.2 (call Tryz.prog (cx []) 20000 (eE271).1 (eE271).2.1 h0) = true := by kernel_rfl
theorem runE272 : pureOk 1000 (eE272).2.2 (call Tryz.prog (cx []) 20000 (eE272).1 (eE272).2.1 h0) = true := by kernel_rfl
theorem runE273 : pureOk 1000 (eE273).2.2 (call Tryz.prog (cx []) 20000 (eE273).1 (eE273).2.1 h0) = true := by kernel_rfl
theorem runE274 : pureOk 1000 (eE274).2.2 (call Tryz.prog (cx []) 20000 (eE274).1 (eE274).2.1 h0) = true := by kernel_rfl
theorem runE275 : pureOk 1000 (eE275).2.2 (call Tryz.prog (cx []) 20000 (eE275).1 (eE275).2.1 h0) = true := by kernel_rfl
theorem runE276 : pureOk 1000 (eE276).2.2 (call Tryz.prog (cx []) 20000 (eE276).1 (eE276).2.1 h0) = true := by kernel_rfl
end Go.Proofs.YtlimihfdpfgedaaGreatDoor
