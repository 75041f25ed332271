/- ResolveNames: calls, as the abstract machine reckons them, part 1. -/
import Derived.Test.YtlimihfdpfgedaaGreatDoorQV
namespace Go.Proofs.YtlimihfdpfgedaaGreatDoor
open Go.Ax
theorem runQ21 : pureOk 1000 (eQ21).2.2 (call Tryz.prog (cx []) 20000 (eQ21).1 (eQ21).2.1 h0) = true := by kernel_rfl
theorem runQ22 : pureOk 1000 (eQ22).2.2 (call Tryz.prog (cx [eQ21]) 20000 (eQ22).1 (eQ22).2.1 h0) = true := by kernel_rfl
theorem runQ23 : pureOk 1000 (eQ23).2.2 (call Tryz.prog (cx [eQ22]) 20000 (eQ23).1 (eQ23).2.1 h0) = true := by kernel_rfl
theorem runQ24 : pureOk 1000 (eQ24).2.2 (call Tryz.prog (cx [eQ22]) 20000 (eQ24).1 (eQ24).2.1 h0) = true := by kernel_rfl
theorem runQ25 : pureOk 1000 (eQ25).2.2 (call Tryz.prog (cx []) 20000 (eQ25).1 (eQ25).2.1 h0) = true := by kernel_rfl
theorem runQ26 : pureOk 1000 (eQ26).2.2 (call Tryz.prog (cx []) 20000 (eQ26).1 (eQ26).2.1 h0) = true := by kernel_rfl
theorem runQ27 : pureOk 1000 (eQ27).2.2 (call Tryz.prog (cx []) 20000 (eQ27).1 (eQ27).2.1 h0) = true := by kernel_rfl
theorem runQ28 : pureOk 1000 (eQ28).2.2 (call Tryz.prog (cx [eQ27]) 20000 (eQ28).1 (eQ28).2.1 h0) = true := by kernel_rfl
theorem runQ29 : pureOk 1000 (eQ29).2.2 (call Tryz.prog (cx [eQ28]) 20000 (eQ29).1 (eQ29).2.1 h0) = true := by kernel_rfl
theorem runQ30 : pureOk 1000 (eQ30).2.2 (call Tryz.prog (cx []) 20000 (eQ30).1 (eQ30).2.1 h0) = true := by kernel_rfl
theorem runQ31 : pureOk 1000 (eQ31).2.2 (call Tryz.prog (cx []) 20000 (eQ31).1 (eQ31).2.1 h0) = true := by kernel_rfl
theorem runQ32 : pureOk 1000 (eQ32).2.2 (call Tryz.prog (cx []) 20000 (eQ32).1 (eQ32).2.1 h0) = true := by kernel_rfl
theorem runQ33 : pureOk 1000 (eQ33).2.2 (call Tryz.prog (cx []) 20000 (eQ33).1 (eQ33).2.1 h0) = true := by kernel_rfl
theorem runQ34 : pureOk 1000 (eQ34).2.2 (call Tryz.prog (cx [eQ0, eQ3, eQ6, eQ7, eQ10, eQ11, eQ12, eQ13, eQ14, eQ15, eQ16, eQ17, eQ18, eQ19, eQ20, eQ23, eQ24, eQ25, eQ26, eQ29, eQ30, eQ31, eQ32, eQ33]) 20000 (eQ34).1 (eQ34).2.1 h0) = true := by kernel_rfl
theorem runQ35 : pureOk 1000 (eQ35).2.2 (call Tryz.prog (cx []) 20000 (eQ35).1 (eQ35).2.1 h0) = true := by kernel_rfl
theorem runQ36 : pureOk 1000 (eQ36).2.2 (call Tryz.prog (cx [eQ35]) 20000 (eQ36).1 (eQ36).2.1 h0) = true := by kernel_rfl
theorem runQ37 : pureOk 1000 (eQ37).2.2 (call Tryz.prog (cx [eQ36]) 20000 (eQ37).1 (eQ37).2.1 h0) = true := by kernel_rfl
theorem runQ38 : pureOk 1000 (eQ38).2.2 (call Tryz.prog (cx [eQ37]) 20000 (eQ38).1 (eQ38).2.1 h0) = true := by kernel_rfl
theorem runQ39 : pureOk 1000 (eQ39).2.2 (call Tryz.prog (cx [eQ37]) 20000 (eQ39).1 (eQ39).2.1 h0) = true := by kernel_rfl
theorem runQ40 : pureOk 1000 (eQ40).2.2 (call Tryz.prog (cx [eQ38, eQ39]) 20000 (eQ40).1 (eQ40).2.1 h0) = true := by kernel_rfl
theorem runQ41 : pureOk 1000 (eQ41).2.2 (call Tryz.prog (cx [eQ37]) 20000 (eQ41).1 (eQ41).2.1 h0) = true := by kernel_rfl
theorem runQ42 : pureOk 1000 (eQ42).2.2 (call Tryz.prog (cx []) 20000 (eQ42).1 (eQ42).2.1 h0) = true := by kernel_rfl
theorem runQ43 : pureOk 1000 (eQ43).2.2 (call Tryz.prog (cx []) 20000 (eQ43).1 (eQ43).2.1 h0) = true := by kernel_rfl
theorem runQ44 : pureOk 1000 (eQ44).2.2 (call Tryz.prog (cx [eQ37]) 20000 (eQ44).1 (eQ44).2.1 h0) = true := by kernel_rfl
theorem runQ45 : pureOk 1000 (eQ45).2.2 (call Tryz.prog (cx []) 20000 (eQ45).1 (eQ45).2.1 h0) = true := by kernel_rfl
theorem runQ46 : pureOk 1000 (eQ46).2.2 (call Tryz.prog (cx []) 20000 (eQ46).1 (eQ46).2.1 h0) = true := by kernel_rfl
theorem runQ47 : pureOk 1000 (eQ47).2.2 (call Tryz.prog (cx [eQ37]) 20000 (eQ47).1 (eQ47).2.1 h0) = true := by kernel_rfl
theorem runQ48 : pureOk 1000 (eQ48).2.2 (call Tryz.prog (cx [eQ37]) 20000 (eQ48).1 (eQ48).2.1 h0) = true := by kernel_rfl
theorem runQ49 : pureOk 1000 (eQ49).2.2 (call Tryz.prog (cx []) 20000 (eQ49).1 (eQ49).2.1 h0) = true := by kernel_rfl
theorem runQ50 : pureOk 1000 (eQ50).2.2 (call Tryz.prog (cx []) 20000 (eQ50).1 (eQ50).2.1 h0) = true := by kernel_rfl
theorem runQ51 : pureOk 1000 (eQ51).2.2 (call Tryz.prog (cx []) 20000 (eQ51).1 (eQ51).2.1 h0) = true := by kernel_rfl
theorem runQ52 : pureOk 1000 (eQ52).2.2 (call Tryz.prog (cx [eQ36]) 20000 (eQ52).1 (eQ52).2.1 h0) = true := by kernel_rfl
theorem runQ53 : pureOk 1000 (eQ53).2.2 (call Tryz.prog (cx [eQ52]) 20000 (eQ53).1 (eQ53).2.1 h0) = true := by kernel_rfl
theorem runQ54 : pureOk 1000 (eQ54).2.2 (call Tryz.prog (cx [eQ52]) 20000 (eQ54).1 (eQ54).2.1 h0) = true := by kernel_rfl
end Go.Proofs.YtlimihfdpfgedaaGreatDoor
