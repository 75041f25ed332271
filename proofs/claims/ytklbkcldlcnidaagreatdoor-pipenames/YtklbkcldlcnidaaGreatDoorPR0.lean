/- PipeNames: calls, as the abstract machine reckons them, part 0. -/
import Derived.Test.YtklbkcldlcnidaaGreatDoorPV
namespace Go.Proofs.YtklbkcldlcnidaaGreatDoor
open Go.Ax
theorem runP0 : pureOk 1000 (eP0).2.2 (call Tryz.prog (cx []) 20000 (eP0).1 (eP0).2.1 h0) = true := by kernel_rfl
theorem runP1 : pureOk 1000 (eP1).2.2 (call Tryz.prog (cx []) 20000 (eP1).1 (eP1).2.1 h0) = true := by kernel_rfl
theorem runP2 : pureOk 1000 (eP2).2.2 (call Tryz.prog (cx [eP1]) 20000 (eP2).1 (eP2).2.1 h0) = true := by kernel_rfl
theorem runP3 : pureOk 1000 (eP3).2.2 (call Tryz.prog (cx [eP2]) 20000 (eP3).1 (eP3).2.1 h0) = true := by kernel_rfl
theorem runP4 : pureOk 1000 (eP4).2.2 (call Tryz.prog (cx []) 20000 (eP4).1 (eP4).2.1 h0) = true := by kernel_rfl
theorem runP5 : pureOk 1000 (eP5).2.2 (call Tryz.prog (cx [eP4]) 20000 (eP5).1 (eP5).2.1 h0) = true := by kernel_rfl
theorem runP6 : pureOk 1000 (eP6).2.2 (call Tryz.prog (cx [eP5]) 20000 (eP6).1 (eP6).2.1 h0) = true := by kernel_rfl
theorem runP7 : pureOk 1000 (eP7).2.2 (call Tryz.prog (cx [eP2]) 20000 (eP7).1 (eP7).2.1 h0) = true := by kernel_rfl
theorem runP8 : pureOk 1000 (eP8).2.2 (call Tryz.prog (cx []) 20000 (eP8).1 (eP8).2.1 h0) = true := by kernel_rfl
theorem runP9 : pureOk 1000 (eP9).2.2 (call Tryz.prog (cx []) 20000 (eP9).1 (eP9).2.1 h0) = true := by kernel_rfl
theorem runP10 : pureOk 1000 (eP10).2.2 (call Tryz.prog (cx []) 20000 (eP10).1 (eP10).2.1 h0) = true := by kernel_rfl
theorem runP11 : pureOk 1000 (eP11).2.2 (call Tryz.prog (cx [eP10]) 20000 (eP11).1 (eP11).2.1 h0) = true := by kernel_rfl
theorem runP12 : pureOk 1000 (eP12).2.2 (call Tryz.prog (cx [eP11]) 20000 (eP12).1 (eP12).2.1 h0) = true := by kernel_rfl
theorem runP13 : pureOk 1000 (eP13).2.2 (call Tryz.prog (cx [eP11]) 20000 (eP13).1 (eP13).2.1 h0) = true := by kernel_rfl
theorem runP14 : pureOk 1000 (eP14).2.2 (call Tryz.prog (cx []) 20000 (eP14).1 (eP14).2.1 h0) = true := by kernel_rfl
theorem runP15 : pureOk 1000 (eP15).2.2 (call Tryz.prog (cx []) 20000 (eP15).1 (eP15).2.1 h0) = true := by kernel_rfl
theorem runP16 : pureOk 1000 (eP16).2.2 (call Tryz.prog (cx [eP5]) 20000 (eP16).1 (eP16).2.1 h0) = true := by kernel_rfl
theorem runP17 : pureOk 1000 (eP17).2.2 (call Tryz.prog (cx [eP11]) 20000 (eP17).1 (eP17).2.1 h0) = true := by kernel_rfl
theorem runP18 : pureOk 1000 (eP18).2.2 (call Tryz.prog (cx []) 20000 (eP18).1 (eP18).2.1 h0) = true := by kernel_rfl
theorem runP19 : pureOk 1000 (eP19).2.2 (call Tryz.prog (cx []) 20000 (eP19).1 (eP19).2.1 h0) = true := by kernel_rfl
theorem runP20 : pureOk 1000 (eP20).2.2 (call Tryz.prog (cx []) 20000 (eP20).1 (eP20).2.1 h0) = true := by kernel_rfl
theorem runP21 : pureOk 1000 (eP21).2.2 (call Tryz.prog (cx []) 20000 (eP21).1 (eP21).2.1 h0) = true := by kernel_rfl
theorem runP22 : pureOk 1000 (eP22).2.2 (call Tryz.prog (cx []) 20000 (eP22).1 (eP22).2.1 h0) = true := by kernel_rfl
theorem runP23 : pureOk 1000 (eP23).2.2 (call Tryz.prog (cx [eP22]) 20000 (eP23).1 (eP23).2.1 h0) = true := by kernel_rfl
theorem runP24 : pureOk 1000 (eP24).2.2 (call Tryz.prog (cx [eP23]) 20000 (eP24).1 (eP24).2.1 h0) = true := by kernel_rfl
theorem runP25 : pureOk 1000 (eP25).2.2 (call Tryz.prog (cx []) 20000 (eP25).1 (eP25).2.1 h0) = true := by kernel_rfl
theorem runP26 : pureOk 1000 (eP26).2.2 (call Tryz.prog (cx []) 20000 (eP26).1 (eP26).2.1 h0) = true := by kernel_rfl
theorem runP27 : pureOk 1000 (eP27).2.2 (call Tryz.prog (cx []) 20000 (eP27).1 (eP27).2.1 h0) = true := by kernel_rfl
theorem runP28 : pureOk 1000 (eP28).2.2 (call Tryz.prog (cx []) 20000 (eP28).1 (eP28).2.1 h0) = true := by kernel_rfl
theorem runP29 : pureOk 1000 (eP29).2.2 (call Tryz.prog (cx []) 20000 (eP29).1 (eP29).2.1 h0) = true := by kernel_rfl
theorem runP30 : pureOk 1000 (eP30).2.2 (call Tryz.prog (cx []) 20000 (eP30).1 (eP30).2.1 h0) = true := by kernel_rfl
theorem runP31 : pureOk 1000 (eP31).2.2 (call Tryz.prog (cx []) 20000 (eP31).1 (eP31).2.1 h0) = true := by kernel_rfl
theorem runP32 : pureOk 1000 (eP32).2.2 (call Tryz.prog (cx []) 20000 (eP32).1 (eP32).2.1 h0) = true := by kernel_rfl
end Go.Proofs.YtklbkcldlcnidaaGreatDoor
