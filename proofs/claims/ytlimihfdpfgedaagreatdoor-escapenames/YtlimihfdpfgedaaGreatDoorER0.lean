/- EscapeNames: calls, as the abstract machine reckons them, part 0. -/
import Derived.Test.YtlimihfdpfgedaaGreatDoorEV
namespace Go.Proofs.YtlimihfdpfgedaaGreatDoor
open Go.Ax
theorem runE0 : pureOk 1000 (eE0).2.2 (call Tryz.prog (cx []) 20000 (eE0).1 (eE0).2.1 h0) = true := by kernel_rfl
theorem runE1 : pureOk 1000 (eE1).2.2 (call Tryz.prog (cx []) 20000 (eE1).1 (eE1).2.1 h0) = true := by kernel_rfl
theorem runE2 : pureOk 1000 (eE2).2.2 (call Tryz.prog (cx [eE1]) 20000 (eE2).1 (eE2).2.1 h0) = true := by kernel_rfl
theorem runE3 : pureOk 1000 (eE3).2.2 (call Tryz.prog (cx [eE2]) 20000 (eE3).1 (eE3).2.1 h0) = true := by kernel_rfl
theorem runE4 : pureOk 1000 (eE4).2.2 (call Tryz.prog (cx []) 20000 (eE4).1 (eE4).2.1 h0) = true := by kernel_rfl
theorem runE5 : pureOk 1000 (eE5).2.2 (call Tryz.prog (cx [eE4]) 20000 (eE5).1 (eE5).2.1 h0) = true := by kernel_rfl
theorem runE6 : pureOk 1000 (eE6).2.2 (call Tryz.prog (cx [eE5]) 20000 (eE6).1 (eE6).2.1 h0) = true := by kernel_rfl
theorem runE7 : pureOk 1000 (eE7).2.2 (call Tryz.prog (cx []) 20000 (eE7).1 (eE7).2.1 h0) = true := by kernel_rfl
theorem runE8 : pureOk 1000 (eE8).2.2 (call Tryz.prog (cx [eE7]) 20000 (eE8).1 (eE8).2.1 h0) = true := by kernel_rfl
theorem runE9 : pureOk 1000 (eE9).2.2 (call Tryz.prog (cx [eE8]) 20000 (eE9).1 (eE9).2.1 h0) = true := by kernel_rfl
theorem runE10 : pureOk 1000 (eE10).2.2 (call Tryz.prog (cx [eE2]) 20000 (eE10).1 (eE10).2.1 h0) = true := by kernel_rfl
theorem runE11 : pureOk 1000 (eE11).2.2 (call Tryz.prog (cx []) 20000 (eE11).1 (eE11).2.1 h0) = true := by kernel_rfl
theorem runE12 : pureOk 1000 (eE12).2.2 (call Tryz.prog (cx []) 20000 (eE12).1 (eE12).2.1 h0) = true := by kernel_rfl
theorem runE13 : pureOk 1000 (eE13).2.2 (call Tryz.prog (cx [eE5]) 20000 (eE13).1 (eE13).2.1 h0) = true := by kernel_rfl
theorem runE14 : pureOk 1000 (eE14).2.2 (call Tryz.prog (cx []) 20000 (eE14).1 (eE14).2.1 h0) = true := by kernel_rfl
theorem runE15 : pureOk 1000 (eE15).2.2 (call Tryz.prog (cx [eE14]) 20000 (eE15).1 (eE15).2.1 h0) = true := by kernel_rfl
theorem runE16 : pureOk 1000 (eE16).2.2 (call Tryz.prog (cx [eE15]) 20000 (eE16).1 (eE16).2.1 h0) = true := by kernel_rfl
theorem runE17 : pureOk 1000 (eE17).2.2 (call Tryz.prog (cx []) 20000 (eE17).1 (eE17).2.1 h0) = true := by kernel_rfl
theorem runE18 : pureOk 1000 (eE18).2.2 (call Tryz.prog (cx []) 20000 (eE18).1 (eE18).2.1 h0) = true := by kernel_rfl
theorem runE19 : pureOk 1000 (eE19).2.2 (call Tryz.prog (cx []) 20000 (eE19).1 (eE19).2.1 h0) = true := by kernel_rfl
theorem runE20 : pureOk 1000 (eE20).2.2 (call Tryz.prog (cx []) 20000 (eE20).1 (eE20).2.1 h0) = true := by kernel_rfl
theorem runE21 : pureOk 1000 (eE21).2.2 (call Tryz.prog (cx []) 20000 (eE21).1 (eE21).2.1 h0) = true := by kernel_rfl
theorem runE22 : pureOk 1000 (eE22).2.2 (call Tryz.prog (cx [eE21]) 20000 (eE22).1 (eE22).2.1 h0) = true := by kernel_rfl
theorem runE23 : pureOk 1000 (eE23).2.2 (call Tryz.prog (cx [eE22]) 20000 (eE23).1 (eE23).2.1 h0) = true := by kernel_rfl
theorem runE24 : pureOk 1000 (eE24).2.2 (call Tryz.prog (cx []) 20000 (eE24).1 (eE24).2.1 h0) = true := by kernel_rfl
theorem runE25 : pureOk 1000 (eE25).2.2 (call Tryz.prog (cx []) 20000 (eE25).1 (eE25).2.1 h0) = true := by kernel_rfl
end Go.Proofs.YtlimihfdpfgedaaGreatDoor
