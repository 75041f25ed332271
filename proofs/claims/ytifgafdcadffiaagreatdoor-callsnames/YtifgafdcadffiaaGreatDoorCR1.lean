/- CallsNames: calls, as the abstract machine reckons them, part 1. -/
import Derived.Test.YtifgafdcadffiaaGreatDoorCV
namespace Go.Proofs.YtifgafdcadffiaaGreatDoor
open Go.Ax
theorem runC1 : pureOk 1000 (eC1).2.2 (call Tryz.prog (cx []) 20000 (eC1).1 (eC1).2.1 h0) = true := by kernel_rfl
theorem runC2 : pureOk 1000 (eC2).2.2 (call Tryz.prog (cx [eC1]) 20000 (eC2).1 (eC2).2.1 h0) = true := by kernel_rfl
theorem runC3 : pureOk 1000 (eC3).2.2 (call Tryz.prog (cx [eC2]) 20000 (eC3).1 (eC3).2.1 h0) = true := by kernel_rfl
theorem runC4 : pureOk 1000 (eC4).2.2 (call Tryz.prog (cx []) 20000 (eC4).1 (eC4).2.1 h0) = true := by kernel_rfl
theorem runC5 : pureOk 1000 (eC5).2.2 (call Tryz.prog (cx [eC4]) 20000 (eC5).1 (eC5).2.1 h0) = true := by kernel_rfl
theorem runC6 : pureOk 1000 (eC6).2.2 (call Tryz.prog (cx [eC5]) 20000 (eC6).1 (eC6).2.1 h0) = true := by kernel_rfl
theorem runC7 : pureOk 1000 (eC7).2.2 (call Tryz.prog (cx [eC2]) 20000 (eC7).1 (eC7).2.1 h0) = true := by kernel_rfl
theorem runC8 : pureOk 1000 (eC8).2.2 (call Tryz.prog (cx []) 20000 (eC8).1 (eC8).2.1 h0) = true := by kernel_rfl
theorem runC9 : pureOk 1000 (eC9).2.2 (call Tryz.prog (cx []) 20000 (eC9).1 (eC9).2.1 h0) = true := by kernel_rfl
theorem runC10 : pureOk 1000 (eC10).2.2 (call Tryz.prog (cx [eC5]) 20000 (eC10).1 (eC10).2.1 h0) = true := by kernel_rfl
theorem runC11 : pureOk 1000 (eC11).2.2 (call Tryz.prog (cx []) 20000 (eC11).1 (eC11).2.1 h0) = true := by kernel_rfl
theorem runC12 : pureOk 1000 (eC12).2.2 (call Tryz.prog (cx []) 20000 (eC12).1 (eC12).2.1 h0) = true := by kernel_rfl
theorem runC13 : pureOk 1000 (eC13).2.2 (call Tryz.prog (cx [eC5]) 20000 (eC13).1 (eC13).2.1 h0) = true := by kernel_rfl
theorem runC14 : pureOk 1000 (eC14).2.2 (call Tryz.prog (cx []) 20000 (eC14).1 (eC14).2.1 h0) = true := by kernel_rfl
theorem runC15 : pureOk 1000 (eC15).2.2 (call Tryz.prog (cx [eC14]) 20000 (eC15).1 (eC15).2.1 h0) = true := by kernel_rfl
theorem runC16 : pureOk 1000 (eC16).2.2 (call Tryz.prog (cx [eC15]) 20000 (eC16).1 (eC16).2.1 h0) = true := by kernel_rfl
theorem runC17 : pureOk 1000 (eC17).2.2 (call Tryz.prog (cx []) 20000 (eC17).1 (eC17).2.1 h0) = true := by kernel_rfl
theorem runC18 : pureOk 1000 (eC18).2.2 (call Tryz.prog (cx []) 20000 (eC18).1 (eC18).2.1 h0) = true := by kernel_rfl
theorem runC19 : pureOk 1000 (eC19).2.2 (call Tryz.prog (cx [eC15]) 20000 (eC19).1 (eC19).2.1 h0) = true := by kernel_rfl
theorem runC20 : pureOk 1000 (eC20).2.2 (call Tryz.prog (cx [eC5]) 20000 (eC20).1 (eC20).2.1 h0) = true := by kernel_rfl
theorem runC21 : pureOk 1000 (eC21).2.2 (call Tryz.prog (cx [eC15]) 20000 (eC21).1 (eC21).2.1 h0) = true := by kernel_rfl
theorem runC22 : pureOk 1000 (eC22).2.2 (call Tryz.prog (cx [eC15]) 20000 (eC22).1 (eC22).2.1 h0) = true := by kernel_rfl
theorem runC23 : pureOk 1000 (eC23).2.2 (call Tryz.prog (cx []) 20000 (eC23).1 (eC23).2.1 h0) = true := by kernel_rfl
theorem runC24 : pureOk 1000 (eC24).2.2 (call Tryz.prog (cx [eC23]) 20000 (eC24).1 (eC24).2.1 h0) = true := by kernel_rfl
theorem runC25 : pureOk 1000 (eC25).2.2 (call Tryz.prog (cx [eC24]) 20000 (eC25).1 (eC25).2.1 h0) = true := by kernel_rfl
theorem runC26 : pureOk 1000 (eC26).2.2 (call Tryz.prog (cx []) 20000 (eC26).1 (eC26).2.1 h0) = true := by kernel_rfl
theorem runC27 : pureOk 1000 (eC27).2.2 (call Tryz.prog (cx [eC26]) 20000 (eC27).1 (eC27).2.1 h0) = true := by kernel_rfl
theorem runC28 : pureOk 1000 (eC28).2.2 (call Tryz.prog (cx [eC27]) 20000 (eC28).1 (eC28).2.1 h0) = true := by kernel_rfl
theorem runC29 : pureOk 1000 (eC29).2.2 (call Tryz.prog (cx []) 20000 (eC29).1 (eC29).2.1 h0) = true := by kernel_rfl
theorem runC30 : pureOk 1000 (eC30).2.2 (call Tryz.prog (cx []) 20000 (eC30).1 (eC30).2.1 h0) = true := by kernel_rfl
theorem runC31 : pureOk 1000 (eC31).2.2 (call Tryz.prog (cx []) 20000 (eC31).1 (eC31).2.1 h0) = true := by kernel_rfl
end Go.Proofs.YtifgafdcadffiaaGreatDoor
