/- EscapeNames: calls, as the abstract machine reckons them, part 26. -/
import Derived.Test.YtlimihfdpfgedaaGreatDoorEV
namespace Go.Proofs.YtlimihfdpfgedaaGreatDoor
open Go.Ax
theorem runE335 : pureOk 1000 (eE335).2.2 (call Tryz.prog (cx [eE43, eE46, eE326, eE333]) 20000 (eE335).1 (eE335).2.1 h0) = true := by kernel_rfl
theorem runE336 : pureOk 1000 (eE336).2.2 (call Tryz.prog (cx []) 20000 (eE336).1 (eE336).2.1 h0) = true := by kernel_rfl
theorem runE337 : pureOk 1000 (eE337).2.2 (call Tryz.prog (cx [eE336]) 20000 (eE337).1 (eE337).2.1 h0) = true := by kernel_rfl
theorem runE338 : pureOk 1000 (eE338).2.2 (call Tryz.prog (cx [eE336]) 20000 (eE338).1 (eE338).2.1 h0) = true := by kernel_rfl
theorem runE339 : pureOk 1000 (eE339).2.2 (call Tryz.prog (cx [eE336]) 20000 (eE339).1 (eE339).2.1 h0) = true := by kernel_rfl
theorem runE340 : pureOk 1000 (eE340).2.2 (call Tryz.prog (cx [eE336]) 20000 (eE340).1 (eE340).2.1 h0) = true := by kernel_rfl
theorem runE341 : pureOk 1000 (eE341).2.2 (call Tryz.prog (cx [eE336]) 20000 (eE341).1 (eE341).2.1 h0) = true := by kernel_rfl
theorem runE342 : pureOk 1000 (eE342).2.2 (call Tryz.prog (cx [eE336]) 20000 (eE342).1 (eE342).2.1 h0) = true := by kernel_rfl
theorem runE343 : pureOk 1000 (eE343).2.2 (call Tryz.prog (cx [eE336]) 20000 (eE343).1 (eE343).2.1 h0) = true := by kernel_rfl
theorem runE344 : pureOkN 1000 (eE344).2.2 (callAll Tryz.prog (cx [eE43, eE46, eE51, eE52, eE53, eE55, eE56, eE58, eE59, eE60, eE61, eE326, eE333, eE334, eE335, eE337, eE338, eE339, eE340, eE341, eE342, eE343]) (nkE []) 20000 (eE344).1 (eE344).2.1) = true := by kernel_rfl
theorem runE345 : pureOk 1000 (eE345).2.2 (call Tryz.prog (cx [eE43, eE46, eE326, eE333]) 20000 (eE345).1 (eE345).2.1 h0) = true := by kernel_rfl
theorem runE346 : pureOk 1000 (eE346).2.2 (call Tryz.prog (cx [eE344, eE345]) 20000 (eE346).1 (eE346).2.1 h0) = true := by kernel_rfl
theorem runE347 : pureOk 1000 (eE347).2.2 (call Tryz.prog (cx [eE43, eE46, eE326, eE333]) 20000 (eE347).1 (eE347).2.1 h0) = true := by kernel_rfl
theorem runE348 : pureOk 1000 (eE348).2.2 (call Tryz.prog (cx []) 20000 (eE348).1 (eE348).2.1 h0) = true := by kernel_rfl
theorem runE349 : pureOk 1000 (eE349).2.2 (call Tryz.prog (cx [eE348]) 20000 (eE349).1 (eE349).2.1 h0) = true := by kernel_rfl
theorem runE350 : pureOk 1000 (eE350).2.2 (call Tryz.prog (cx [eE349]) 20000 (eE350).1 (eE350).2.1 h0) = true := by kernel_rfl
theorem runE351 : pureOk 1000 (eE351).2.2 (call Tryz.prog (cx [eE350]) 20000 (eE351).1 (eE351).2.1 h0) = true := by kernel_rfl
theorem runE352 : pureOk 1000 (eE352).2.2 (call Tryz.prog (cx [eE351]) 20000 (eE352).1 (eE352).2.1 h0) = true := by kernel_rfl
end Go.Proofs.YtlimihfdpfgedaaGreatDoor
