/- EscapeNames: calls, as the abstract machine reckons them, part 3. -/
import Derived.Test.YtlimihfdpfgedaaGreatDoorEV
namespace Go.Proofs.YtlimihfdpfgedaaGreatDoor
open Go.Ax
theorem runE83 : pureOk 1000 (eE83).2.2 (call Tryz.prog (cx [eE27]) 20000 (eE83).1 (eE83).2.1 h0) = true := by kernel_rfl
theorem runE84 : pureOk 1000 (eE84).2.2 (call Tryz.prog (cx [eE83]) 20000 (eE84).1 (eE84).2.1 h0) = true := by kernel_rfl
theorem runE85 : pureOk 1000 (eE85).2.2 (call Tryz.prog (cx [eE84]) 20000 (eE85).1 (eE85).2.1 h0) = true := by kernel_rfl
theorem runE86 : pureOk 1000 (eE86).2.2 (call Tryz.prog (cx [eE84]) 20000 (eE86).1 (eE86).2.1 h0) = true := by kernel_rfl
theorem runE87 : pureOk 1000 (eE87).2.2 (call Tryz.prog (cx [eE85, eE86]) 20000 (eE87).1 (eE87).2.1 h0) = true := by kernel_rfl
theorem runE88 : pureOk 1000 (eE88).2.2 (call Tryz.prog (cx [eE84]) 20000 (eE88).1 (eE88).2.1 h0) = true := by kernel_rfl
theorem runE89 : pureOk 1000 (eE89).2.2 (call Tryz.prog (cx []) 20000 (eE89).1 (eE89).2.1 h0) = true := by kernel_rfl
theorem runE90 : pureOk 1000 (eE90).2.2 (call Tryz.prog (cx [eE11, eE34, eE79, eE80, eE83, eE85, eE87, eE88, eE89]) 20000 (eE90).1 (eE90).2.1 h0) = true := by kernel_rfl
theorem runE91 : pureOk 1000 (eE91).2.2 (call Tryz.prog (cx [eE90]) 20000 (eE91).1 (eE91).2.1 h0) = true := by kernel_rfl
theorem runE92 : pureOk 1000 (eE92).2.2 (call Tryz.prog (cx []) 20000 (eE92).1 (eE92).2.1 h0) = true := by kernel_rfl
theorem runE93 : pureOk 1000 (eE93).2.2 (call Tryz.prog (cx [eE43, eE84, eE91]) 20000 (eE93).1 (eE93).2.1 h0) = true := by kernel_rfl
theorem runE94 : pureOk 1000 (eE94).2.2 (call Tryz.prog (cx []) 20000 (eE94).1 (eE94).2.1 h0) = true := by kernel_rfl
theorem runE95 : pureOk 1000 (eE95).2.2 (call Tryz.prog (cx [eE94]) 20000 (eE95).1 (eE95).2.1 h0) = true := by kernel_rfl
theorem runE96 : pureOk 1000 (eE96).2.2 (call Tryz.prog (cx [eE94]) 20000 (eE96).1 (eE96).2.1 h0) = true := by kernel_rfl
theorem runE97 : pureOk 1000 (eE97).2.2 (call Tryz.prog (cx [eE94]) 20000 (eE97).1 (eE97).2.1 h0) = true := by kernel_rfl
theorem runE98 : pureOk 1000 (eE98).2.2 (call Tryz.prog (cx [eE94]) 20000 (eE98).1 (eE98).2.1 h0) = true := by kernel_rfl
theorem runE99 : pureOkN 1000 (eE99).2.2 (callAll Tryz.prog (cx [eE43, eE51, eE52, eE53, eE84, eE91, eE92, eE93, eE95, eE96, eE97, eE98]) (nkE []) 20000 (eE99).1 (eE99).2.1) = true := by kernel_rfl
theorem runE100 : pureOk 1000 (eE100).2.2 (call Tryz.prog (cx [eE43, eE84, eE91]) 20000 (eE100).1 (eE100).2.1 h0) = true := by kernel_rfl
theorem runE101 : pureOk 1000 (eE101).2.2 (call Tryz.prog (cx [eE99, eE100]) 20000 (eE101).1 (eE101).2.1 h0) = true := by kernel_rfl
theorem runE102 : pureOk 1000 (eE102).2.2 (call Tryz.prog (cx [eE43, eE84, eE91]) 20000 (eE102).1 (eE102).2.1 h0) = true := by kernel_rfl
theorem runE103 : pureOk 1000 (eE103).2.2 (call Tryz.prog (cx [eE43, eE72, eE84, eE91, eE99, eE101, eE102]) 20000 (eE103).1 (eE103).2.1 h0) = true := by kernel_rfl
end Go.Proofs.YtlimihfdpfgedaaGreatDoor
