/- ScalarNames: calls, as the abstract machine reckons them, part 1. -/
import Derived.Test.YtolmndaigpcdaaaGreatDoorKV
namespace Go.Proofs.YtolmndaigpcdaaaGreatDoor
open Go.Ax
theorem runK13 : pureOk 1000 (eK13).2.2 (call Tryz.prog (cx [eK2]) 20000 (eK13).1 (eK13).2.1 h0) = true := by kernel_rfl
theorem runK14 : pureOk 1000 (eK14).2.2 (call Tryz.prog (cx []) 20000 (eK14).1 (eK14).2.1 h0) = true := by kernel_rfl
theorem runK15 : pureOk 1000 (eK15).2.2 (call Tryz.prog (cx [eK5]) 20000 (eK15).1 (eK15).2.1 h0) = true := by kernel_rfl
theorem runK16 : pureOk 1000 (eK16).2.2 (call Tryz.prog (cx []) 20000 (eK16).1 (eK16).2.1 h0) = true := by kernel_rfl
theorem runK17 : pureOk 1000 (eK17).2.2 (call Tryz.prog (cx []) 20000 (eK17).1 (eK17).2.1 h0) = true := by kernel_rfl
theorem runK18 : pureOk 1000 (eK18).2.2 (call Tryz.prog (cx []) 20000 (eK18).1 (eK18).2.1 h0) = true := by kernel_rfl
theorem runK19 : pureOk 1000 (eK19).2.2 (call Tryz.prog (cx []) 20000 (eK19).1 (eK19).2.1 h0) = true := by kernel_rfl
theorem runK20 : pureOk 1000 (eK20).2.2 (call Tryz.prog (cx [eK19]) 20000 (eK20).1 (eK20).2.1 h0) = true := by kernel_rfl
theorem runK21 : pureOk 1000 (eK21).2.2 (call Tryz.prog (cx [eK20]) 20000 (eK21).1 (eK21).2.1 h0) = true := by kernel_rfl
theorem runK22 : pureOk 1000 (eK22).2.2 (call Tryz.prog (cx []) 20000 (eK22).1 (eK22).2.1 h0) = true := by kernel_rfl
theorem runK23 : pureOk 1000 (eK23).2.2 (call Tryz.prog (cx [eK0, eK3, eK6, eK9, eK12, eK13, eK14, eK15, eK16, eK17, eK18, eK21, eK22]) 20000 (eK23).1 (eK23).2.1 h0) = true := by kernel_rfl
theorem runK24 : pureOk 1000 (eK24).2.2 (call Tryz.prog (cx []) 20000 (eK24).1 (eK24).2.1 h0) = true := by kernel_rfl
theorem runK25 : pureOk 1000 (eK25).2.2 (call Tryz.prog (cx []) 20000 (eK25).1 (eK25).2.1 h0) = true := by kernel_rfl
theorem runK26 : pureOk 1000 (eK26).2.2 (call Tryz.prog (cx [eK25]) 20000 (eK26).1 (eK26).2.1 h0) = true := by kernel_rfl
theorem runK27 : pureOk 1000 (eK27).2.2 (call Tryz.prog (cx [eK26]) 20000 (eK27).1 (eK27).2.1 h0) = true := by kernel_rfl
theorem runK28 : pureOk 1000 (eK28).2.2 (call Tryz.prog (cx [eK26]) 20000 (eK28).1 (eK28).2.1 h0) = true := by kernel_rfl
theorem runK29 : pureOk 1000 (eK29).2.2 (call Tryz.prog (cx [eK27, eK28]) 20000 (eK29).1 (eK29).2.1 h0) = true := by kernel_rfl
end Go.Proofs.YtolmndaigpcdaaaGreatDoor
