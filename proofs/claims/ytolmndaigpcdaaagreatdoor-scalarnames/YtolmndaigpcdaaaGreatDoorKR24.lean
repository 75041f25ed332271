/- ScalarNames: calls, as the abstract machine reckons them, part 24. -/
import Derived.Test.YtolmndaigpcdaaaGreatDoorKV
namespace Go.Proofs.YtolmndaigpcdaaaGreatDoor
open Go.Ax
theorem runK235 : pureOk 1000 (eK235).2.2 (call Tryz.prog (cx []) 20000 (eK235).1 (eK235).2.1 h0) = true := by kernel_rfl
theorem runK236 : pureOk 1000 (eK236).2.2 (call Tryz.prog (cx [eK25]) 20000 (eK236).1 (eK236).2.1 h0) = true := by kernel_rfl
theorem runK237 : pureOk 1000 (eK237).2.2 (call Tryz.prog (cx [eK236]) 20000 (eK237).1 (eK237).2.1 h0) = true := by kernel_rfl
theorem runK238 : pureOk 1000 (eK238).2.2 (call Tryz.prog (cx [eK236]) 20000 (eK238).1 (eK238).2.1 h0) = true := by kernel_rfl
theorem runK239 : pureOk 1000 (eK239).2.2 (call Tryz.prog (cx [eK237, eK238]) 20000 (eK239).1 (eK239).2.1 h0) = true := by kernel_rfl
theorem runK240 : pureOk 1000 (eK240).2.2 (call Tryz.prog (cx [eK236]) 20000 (eK240).1 (eK240).2.1 h0) = true := by kernel_rfl
theorem runK241 : pureOk 1000 (eK241).2.2 (call Tryz.prog (cx [eK22, eK31, eK32, eK33, eK236, eK237, eK239, eK240]) 20000 (eK241).1 (eK241).2.1 h0) = true := by kernel_rfl
theorem runK242 : pureOk 1000 (eK242).2.2 (call Tryz.prog (cx [eK241]) 20000 (eK242).1 (eK242).2.1 h0) = true := by kernel_rfl
theorem runK243 : pureOk 1000 (eK243).2.2 (call Tryz.prog (cx [eK236]) 20000 (eK243).1 (eK243).2.1 h0) = true := by kernel_rfl
theorem runK244 : pureOk 1000 (eK244).2.2 (call Tryz.prog (cx [eK237, eK238, eK243]) 20000 (eK244).1 (eK244).2.1 h0) = true := by kernel_rfl
theorem runK245 : pureOk 1000 (eK245).2.2 (call Tryz.prog (cx [eK14, eK16, eK18, eK22, eK236]) 20000 (eK245).1 (eK245).2.1 h0) = true := by kernel_rfl
theorem runK246 : pureOk 1000 (eK246).2.2 (call Tryz.prog (cx [eK25]) 20000 (eK246).1 (eK246).2.1 h0) = true := by kernel_rfl
theorem runK247 : pureOk 1000 (eK247).2.2 (call Tryz.prog (cx [eK16, eK32, eK246]) 20000 (eK247).1 (eK247).2.1 h0) = true := by kernel_rfl
theorem runK248 : pureOk 1000 (eK248).2.2 (call Tryz.prog (cx [eK25]) 20000 (eK248).1 (eK248).2.1 h0) = true := by kernel_rfl
theorem runK249 : pureOk 1000 (eK249).2.2 (call Tryz.prog (cx [eK248]) 20000 (eK249).1 (eK249).2.1 h0) = true := by kernel_rfl
theorem runK250 : pureOk 1000 (eK250).2.2 (call Tryz.prog (cx [eK248]) 20000 (eK250).1 (eK250).2.1 h0) = true := by kernel_rfl
theorem runK251 : pureOk 1000 (eK251).2.2 (call Tryz.prog (cx [eK249, eK250]) 20000 (eK251).1 (eK251).2.1 h0) = true := by kernel_rfl
end Go.Proofs.YtolmndaigpcdaaaGreatDoor
