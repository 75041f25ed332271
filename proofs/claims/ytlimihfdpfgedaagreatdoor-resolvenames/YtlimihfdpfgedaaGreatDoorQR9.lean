/- ResolveNames: calls, as the abstract machine reckons them, part 9. -/
import Derived.Test.YtlimihfdpfgedaaGreatDoorQV
namespace Go.Proofs.YtlimihfdpfgedaaGreatDoor
open Go.Ax
theorem runQ166 : pureOk 1000 (eQ166).2.2 (call Tryz.prog (cx [eQ159]) 20000 (eQ166).1 (eQ166).2.1 h0) = true := by kernel_rfl
theorem runQ167 : pureOk 1000 (eQ167).2.2 (call Tryz.prog (cx [eQ166]) 20000 (eQ167).1 (eQ167).2.1 h0) = true := by kernel_rfl
theorem runQ168 : pureOk 1000 (eQ168).2.2 (call Tryz.prog (cx [eQ166]) 20000 (eQ168).1 (eQ168).2.1 h0) = true := by kernel_rfl
theorem runQ169 : pureOk 1000 (eQ169).2.2 (call Tryz.prog (cx [eQ167, eQ168]) 20000 (eQ169).1 (eQ169).2.1 h0) = true := by kernel_rfl
theorem runQ170 : pureOk 1000 (eQ170).2.2 (call Tryz.prog (cx [eQ166]) 20000 (eQ170).1 (eQ170).2.1 h0) = true := by kernel_rfl
theorem runQ171 : pureOk 1000 (eQ171).2.2 (call Tryz.prog (cx [eQ159]) 20000 (eQ171).1 (eQ171).2.1 h0) = true := by kernel_rfl
theorem runQ172 : pureOk 1000 (eQ172).2.2 (call Tryz.prog (cx [eQ171]) 20000 (eQ172).1 (eQ172).2.1 h0) = true := by kernel_rfl
theorem runQ173 : pureOk 1000 (eQ173).2.2 (call Tryz.prog (cx [eQ171]) 20000 (eQ173).1 (eQ173).2.1 h0) = true := by kernel_rfl
theorem runQ174 : pureOk 1000 (eQ174).2.2 (call Tryz.prog (cx [eQ172, eQ173]) 20000 (eQ174).1 (eQ174).2.1 h0) = true := by kernel_rfl
theorem runQ175 : pureOk 1000 (eQ175).2.2 (call Tryz.prog (cx [eQ171]) 20000 (eQ175).1 (eQ175).2.1 h0) = true := by kernel_rfl
theorem runQ176 : pureOk 1000 (eQ176).2.2 (call Tryz.prog (cx [eQ30, eQ32, eQ33, eQ57, eQ63, eQ71, eQ80, eQ81, eQ82, eQ156, eQ159, eQ161, eQ163, eQ164, eQ165, eQ167, eQ169, eQ170, eQ172, eQ174, eQ175]) 20000 (eQ176).1 (eQ176).2.1 h0) = true := by kernel_rfl
theorem runQ177 : pureOk 1000 (eQ177).2.2 (call Tryz.prog (cx [eQ176]) 20000 (eQ177).1 (eQ177).2.1 h0) = true := by kernel_rfl
theorem runQ178 : pureOk 1000 (eQ178).2.2 (call Tryz.prog (cx [eQ160, eQ166, eQ171, eQ177]) 20000 (eQ178).1 (eQ178).2.1 h0) = true := by kernel_rfl
theorem runQ179 : pureOk 1000 (eQ179).2.2 (call Tryz.prog (cx []) 20000 (eQ179).1 (eQ179).2.1 h0) = true := by kernel_rfl
theorem runQ180 : pureOk 1000 (eQ180).2.2 (call Tryz.prog (cx []) 20000 (eQ180).1 (eQ180).2.1 h0) = true := by kernel_rfl
theorem runQ181 : pureOkN 1000 (eQ181).2.2 (callAll Tryz.prog (cx [eQ96, eQ99, eQ100, eQ103, eQ104, eQ106, eQ107, eQ108, eQ109, eQ110, eQ111, eQ160, eQ166, eQ171, eQ177, eQ178, eQ179, eQ180]) (nkQ []) 20000 (eQ181).1 (eQ181).2.1) = true := by kernel_rfl
theorem runQ182 : pureOk 1000 (eQ182).2.2 (call Tryz.prog (cx []) 20000 (eQ182).1 (eQ182).2.1 h0) = true := by kernel_rfl
theorem runQ183 : pureOk 1000 (eQ183).2.2 (call Tryz.prog (cx [eQ182]) 20000 (eQ183).1 (eQ183).2.1 h0) = true := by kernel_rfl
theorem runQ184 : pureOk 1000 (eQ184).2.2 (call Tryz.prog (cx []) 20000 (eQ184).1 (eQ184).2.1 h0) = true := by kernel_rfl
theorem runQ185 : pureOk 1000 (eQ185).2.2 (call Tryz.prog (cx [eQ35, eQ94, eQ176, eQ181, eQ183, eQ184]) 20000 (eQ185).1 (eQ185).2.1 h0) = true := by kernel_rfl
end Go.Proofs.YtlimihfdpfgedaaGreatDoor
