/- EscapeNames: calls, as the abstract machine reckons them, part 33. -/
import Derived.Test.YtlimihfdpfgedaaGreatDoorEV
namespace Go.Proofs.YtlimihfdpfgedaaGreatDoor
open Go.Ax
theorem runE424 : pureOk 1000 (eE424).2.2 (call Tryz.prog (cx [eE3, eE4, eE6, eE9, eE10, eE11, eE12, eE13, eE24, eE25, eE79, eE80, eE105, eE147, eE151, eE421, eE422, eE423]) 20000 (eE424).1 (eE424).2.1 h0) = true := by kernel_rfl
theorem runE425 : pureOk 1000 (eE425).2.2 (call Tryz.prog (cx [eE27]) 20000 (eE425).1 (eE425).2.1 h0) = true := by kernel_rfl
theorem runE426 : pureOk 1000 (eE426).2.2 (call Tryz.prog (cx [eE425]) 20000 (eE426).1 (eE426).2.1 h0) = true := by kernel_rfl
theorem runE427 : pureOk 1000 (eE427).2.2 (call Tryz.prog (cx [eE426]) 20000 (eE427).1 (eE427).2.1 h0) = true := by kernel_rfl
theorem runE428 : pureOk 1000 (eE428).2.2 (call Tryz.prog (cx [eE426]) 20000 (eE428).1 (eE428).2.1 h0) = true := by kernel_rfl
theorem runE429 : pureOk 1000 (eE429).2.2 (call Tryz.prog (cx [eE427, eE428]) 20000 (eE429).1 (eE429).2.1 h0) = true := by kernel_rfl
theorem runE430 : pureOk 1000 (eE430).2.2 (call Tryz.prog (cx [eE426]) 20000 (eE430).1 (eE430).2.1 h0) = true := by kernel_rfl
theorem runE431 : pureOk 1000 (eE431).2.2 (call Tryz.prog (cx []) 20000 (eE431).1 (eE431).2.1 h0) = true := by kernel_rfl
theorem runE432 : pureOk 1000 (eE432).2.2 (call Tryz.prog (cx []) 20000 (eE432).1 (eE432).2.1 h0) = true := by kernel_rfl
theorem runE433 : pureOk 1000 (eE433).2.2 (call Tryz.prog (cx [eE425]) 20000 (eE433).1 (eE433).2.1 h0) = true := by kernel_rfl
theorem runE434 : pureOk 1000 (eE434).2.2 (call Tryz.prog (cx [eE433]) 20000 (eE434).1 (eE434).2.1 h0) = true := by kernel_rfl
theorem runE435 : pureOk 1000 (eE435).2.2 (call Tryz.prog (cx [eE433]) 20000 (eE435).1 (eE435).2.1 h0) = true := by kernel_rfl
theorem runE436 : pureOk 1000 (eE436).2.2 (call Tryz.prog (cx [eE434, eE435]) 20000 (eE436).1 (eE436).2.1 h0) = true := by kernel_rfl
theorem runE437 : pureOk 1000 (eE437).2.2 (call Tryz.prog (cx [eE433]) 20000 (eE437).1 (eE437).2.1 h0) = true := by kernel_rfl
theorem runE438 : pureOk 1000 (eE438).2.2 (call Tryz.prog (cx [eE11, eE24, eE34, eE37, eE79, eE89, eE362, eE422, eE425, eE427, eE429, eE430, eE431, eE432, eE434, eE436, eE437]) 20000 (eE438).1 (eE438).2.1 h0) = true := by kernel_rfl
theorem runE439 : pureOk 1000 (eE439).2.2 (call Tryz.prog (cx [eE438]) 20000 (eE439).1 (eE439).2.1 h0) = true := by kernel_rfl
theorem runE440 : pureOk 1000 (eE440).2.2 (call Tryz.prog (cx [eE43, eE426, eE433, eE439]) 20000 (eE440).1 (eE440).2.1 h0) = true := by kernel_rfl
theorem runE441 : pureOk 1000 (eE441).2.2 (call Tryz.prog (cx []) 20000 (eE441).1 (eE441).2.1 h0) = true := by kernel_rfl
theorem runE442 : pureOk 1000 (eE442).2.2 (call Tryz.prog (cx []) 20000 (eE442).1 (eE442).2.1 h0) = true := by kernel_rfl
theorem runE443 : pureOk 1000 (eE443).2.2 (call Tryz.prog (cx []) 20000 (eE443).1 (eE443).2.1 h0) = true := by kernel_rfl
theorem runE444 : pureOk 1000 (eE444).2.2 (call Tryz.prog (cx []) 20000 (eE444).1 (eE444).2.1 h0) = true := by kernel_rfl
end Go.Proofs.YtlimihfdpfgedaaGreatDoor
