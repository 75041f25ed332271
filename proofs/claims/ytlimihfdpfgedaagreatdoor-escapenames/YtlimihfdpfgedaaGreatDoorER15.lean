/- EscapeNames: calls, as the abstract machine reckons them, part 15. -/
import Derived.Test.YtlimihfdpfgedaaGreatDoorEV
namespace Go.Proofs.YtlimihfdpfgedaaGreatDoor
open Go.Ax
theorem runE237 : pureOk 1000 (eE237).2.2 (call Tryz.prog (cx []) 20000 (eE237).1 (eE237).2.1 h0) = true := by kernel_rfl
theorem runE238 : pureOk 1000 (eE238).2.2 (call Tryz.prog (cx []) 20000 (eE238).1 (eE238).2.1 h0) = true := by kernel_rfl
theorem runE239 : pureOk 1000 (eE239).2.2 (call Tryz.prog (cx []) 20000 (eE239).1 (eE239).2.1 h0) = true := by kernel_rfl
theorem runE240 : pureOk 1000 (eE240).2.2 (call Tryz.prog (cx []) 20000 (eE240).1 (eE240).2.1 h0) = true := by kernel_rfl
theorem runE241 : pureOk 1000 (eE241).2.2 (call Tryz.prog (cx []) 20000 (eE241).1 (eE241).2.1 h0) = true := by kernel_rfl
theorem runE242 : pureOk 1000 (eE242).2.2 (call Tryz.prog (cx []) 20000 (eE242).1 (eE242).2.1 h0) = true := by kernel_rfl
theorem runE243 : pureOk 1000 (eE243).2.2 (call Tryz.prog (cx []) 20000 (eE243).1 (eE243).2.1 h0) = true := by kernel_rfl
theorem runE244 : pureOk 1000 (eE244).2.2 (call Tryz.prog (cx []) 20000 (eE244).1 (eE244).2.1 h0) = true := by kernel_rfl
end Go.Proofs.YtlimihfdpfgedaaGreatDoor
