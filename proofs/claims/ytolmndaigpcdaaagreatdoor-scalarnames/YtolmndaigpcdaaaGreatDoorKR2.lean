/- ScalarNames: calls, as the abstract machine reckons them, part 2. -/
import Derived.Test.YtolmndaigpcdaaaGreatDoorKV
namespace Go.Proofs.YtolmndaigpcdaaaGreatDoor
open Go.Ax
theorem runK30 : pureOk 1000 (eK30).2.2 (call Tryz.prog (cx [eK26]) 20000 (eK30).1 (eK30).2.1 h0) = true := by kernel_rfl
theorem runK31 : pureOk 1000 (eK31).2.2 (call Tryz.prog (cx []) 20000 (eK31).1 (eK31).2.1 h0) = true := by kernel_rfl
theorem runK32 : pureOk 1000 (eK32).2.2 (call Tryz.prog (cx []) 20000 (eK32).1 (eK32).2.1 h0) = true := by kernel_rfl
theorem runK33 : pureOk 1000 (eK33).2.2 (call Tryz.prog (cx []) 20000 (eK33).1 (eK33).2.1 h0) = true := by kernel_rfl
theorem runK34 : pureOk 1000 (eK34).2.2 (call Tryz.prog (cx [eK22, eK26, eK27, eK29, eK30, eK31, eK32, eK33]) 20000 (eK34).1 (eK34).2.1 h0) = true := by kernel_rfl
theorem runK35 : pureOk 1000 (eK35).2.2 (call Tryz.prog (cx [eK34]) 20000 (eK35).1 (eK35).2.1 h0) = true := by kernel_rfl
theorem runK36 : pureOk 1000 (eK36).2.2 (call Tryz.prog (cx [eK22, eK24, eK31, eK32, eK33, eK35]) 20000 (eK36).1 (eK36).2.1 h0) = true := by kernel_rfl
theorem runK37 : pureOk 1000 (eK37).2.2 (call Tryz.prog (cx []) 20000 (eK37).1 (eK37).2.1 h0) = true := by kernel_rfl
theorem runK38 : pureOk 1000 (eK38).2.2 (call Tryz.prog (cx []) 20000 (eK38).1 (eK38).2.1 h0) = true := by kernel_rfl
theorem runK39 : pureOk 1000 (eK39).2.2 (call Tryz.prog (cx []) 20000 (eK39).1 (eK39).2.1 h0) = true := by kernel_rfl
theorem runK40 : pureOk 1000 (eK40).2.2 (call Tryz.prog (cx []) 20000 (eK40).1 (eK40).2.1 h0) = true := by kernel_rfl
theorem runK41 : pureOk 1000 (eK41).2.2 (call Tryz.prog (cx []) 20000 (eK41).1 (eK41).2.1 h0) = true := by kernel_rfl
theorem runK42 : pureOk 1000 (eK42).2.2 (call Tryz.prog (cx []) 20000 (eK42).1 (eK42).2.1 h0) = true := by kernel_rfl
theorem runK43 : pureOk 1000 (eK43).2.2 (call Tryz.prog (cx []) 20000 (eK43).1 (eK43).2.1 h0) = true := by kernel_rfl
theorem runK44 : pureOk 1000 (eK44).2.2 (call Tryz.prog (cx []) 20000 (eK44).1 (eK44).2.1 h0) = true := by kernel_rfl
theorem runK45 : pureOk 1000 (eK45).2.2 (call Tryz.prog (cx []) 20000 (eK45).1 (eK45).2.1 h0) = true := by kernel_rfl
theorem runK46 : pureOk 1000 (eK46).2.2 (call Tryz.prog (cx []) 20000 (eK46).1 (eK46).2.1 h0) = true := by kernel_rfl
theorem runK47 : pureOk 1000 (eK47).2.2 (call Tryz.prog (cx []) 20000 (eK47).1 (eK47).2.1 h0) = true := by kernel_rfl
theorem runK48 : pureOk 1000 (eK48).2.2 (call Tryz.prog (cx []) 20000 (eK48).1 (eK48).2.1 h0) = true := by kernel_rfl
theorem runK49 : pureOk 1000 (eK49).2.2 (call Tryz.prog (cx []) 20000 (eK49).1 (eK49).2.1 h0) = true := by kernel_rfl
theorem runK50 : pureOk 1000 (eK50).2.2 (call Tryz.prog (cx []) 20000 (eK50).1 (eK50).2.1 h0) = true := by kernel_rfl
theorem runK51 : pureOk 1000 (eK51).2.2 (call Tryz.prog (cx []) 20000 (eK51).1 (eK51).2.1 h0) = true := by kernel_rfl
theorem runK52 : pureOk 1000 (eK52).2.2 (call Tryz.prog (cx []) 20000 (eK52).1 (eK52).2.1 h0) = true := by kernel_rfl
theorem runK53 : pureOk 1000 (eK53).2.2 (call Tryz.prog (cx []) 20000 (eK53).1 (eK53).2.1 h0) = true := by kernel_rfl
theorem runK54 : pureOk 1000 (eK54).2.2 (call Tryz.prog (cx []) 20000 (eK54).1 (eK54).2.1 h0) = true := by kernel_rfl
theorem runK55 : pureOk 1000 (eK55).2.2 (call Tryz.prog (cx []) 20000 (eK55).1 (eK55).2.1 h0) = true := by kernel_rfl
theorem runK56 : pureOk 1000 (eK56).2.2 (call Tryz.prog (cx []) 20000 (eK56).1 (eK56).2.1 h0) = true := by kernel_rfl
end Go.Proofs.YtolmndaigpcdaaaGreatDoor
