/- ReloadNames: calls, as the abstract machine reckons them, part 3. -/
import Derived.Test.YtmmjfmbpilfehaaGreatDoorRV
namespace Go.Proofs.YtmmjfmbpilfehaaGreatDoor
open Go.Ax
theorem runR42 : pureOk 1000 (eR42).2.2 (call Tryz.prog (cx [eR40]) 20000 (eR42).1 (eR42).2.1 h0) = true := by kernel_rfl
theorem runR43 : pureOk 1000 (eR43).2.2 (call Tryz.prog (cx [eR41, eR42]) 20000 (eR43).1 (eR43).2.1 h0) = true := by kernel_rfl
theorem runR44 : pureOk 1000 (eR44).2.2 (call Tryz.prog (cx [eR40]) 20000 (eR44).1 (eR44).2.1 h0) = true := by kernel_rfl
theorem runR45 : pureOk 1000 (eR45).2.2 (call Tryz.prog (cx []) 20000 (eR45).1 (eR45).2.1 h0) = true := by kernel_rfl
theorem runR46 : pureOk 1000 (eR46).2.2 (call Tryz.prog (cx []) 20000 (eR46).1 (eR46).2.1 h0) = true := by kernel_rfl
theorem runR47 : pureOk 1000 (eR47).2.2 (call Tryz.prog (cx [eR32]) 20000 (eR47).1 (eR47).2.1 h0) = true := by kernel_rfl
theorem runR48 : pureOk 1000 (eR48).2.2 (call Tryz.prog (cx [eR47]) 20000 (eR48).1 (eR48).2.1 h0) = true := by kernel_rfl
theorem runR49 : pureOk 1000 (eR49).2.2 (call Tryz.prog (cx [eR47]) 20000 (eR49).1 (eR49).2.1 h0) = true := by kernel_rfl
theorem runR50 : pureOk 1000 (eR50).2.2 (call Tryz.prog (cx [eR48, eR49]) 20000 (eR50).1 (eR50).2.1 h0) = true := by kernel_rfl
theorem runR51 : pureOk 1000 (eR51).2.2 (call Tryz.prog (cx [eR47]) 20000 (eR51).1 (eR51).2.1 h0) = true := by kernel_rfl
theorem runR52 : pureOk 1000 (eR52).2.2 (call Tryz.prog (cx []) 20000 (eR52).1 (eR52).2.1 h0) = true := by kernel_rfl
theorem runR53 : pureOk 1000 (eR53).2.2 (call Tryz.prog (cx []) 20000 (eR53).1 (eR53).2.1 h0) = true := by kernel_rfl
theorem runR54 : pureOk 1000 (eR54).2.2 (call Tryz.prog (cx []) 20000 (eR54).1 (eR54).2.1 h0) = true := by kernel_rfl
theorem runR55 : pureOk 1000 (eR55).2.2 (call Tryz.prog (cx [eR11, eR17, eR18, eR19, eR25, eR27, eR32, eR34, eR36, eR37, eR38, eR39, eR41, eR43, eR44, eR45, eR46, eR48, eR50, eR51, eR52, eR53, eR54]) 20000 (eR55).1 (eR55).2.1 h0) = true := by kernel_rfl
theorem runR56 : pureOk 1000 (eR56).2.2 (call Tryz.prog (cx [eR55]) 20000 (eR56).1 (eR56).2.1 h0) = true := by kernel_rfl
theorem runR57 : pureOk 1000 (eR57).2.2 (call Tryz.prog (cx [eR31]) 20000 (eR57).1 (eR57).2.1 h0) = true := by kernel_rfl
theorem runR58 : pureOk 1000 (eR58).2.2 (call Tryz.prog (cx []) 20000 (eR58).1 (eR58).2.1 h0) = true := by kernel_rfl
theorem runR59 : pureOk 1000 (eR59).2.2 (call Tryz.prog (cx [eR57, eR58]) 20000 (eR59).1 (eR59).2.1 h0) = true := by kernel_rfl
theorem runR60 : pureOk 1000 (eR60).2.2 (call Tryz.prog (cx []) 20000 (eR60).1 (eR60).2.1 h0) = true := by kernel_rfl
theorem runR61 : pureOk 1000 (eR61).2.2 (call Tryz.prog (cx [eR33, eR40, eR47, eR56, eR59]) 20000 (eR61).1 (eR61).2.1 h0) = true := by kernel_rfl
theorem runR62 : pureOk 1000 (eR62).2.2 (call Tryz.prog (cx []) 20000 (eR62).1 (eR62).2.1 h0) = true := by kernel_rfl
theorem runR63 : pureOk 1000 (eR63).2.2 (call Tryz.prog (cx [eR62]) 20000 (eR63).1 (eR63).2.1 h0) = true := by kernel_rfl
theorem runR64 : pureOk 1000 (eR64).2.2 (call Tryz.prog (cx []) 20000 (eR64).1 (eR64).2.1 h0) = true := by kernel_rfl
theorem runR65 : pureOk 1000 (eR65).2.2 (call Tryz.prog (cx []) 20000 (eR65).1 (eR65).2.1 h0) = true := by kernel_rfl
end Go.Proofs.YtmmjfmbpilfehaaGreatDoor
