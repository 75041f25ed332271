/- EscapeNames: calls, as the abstract machine reckons them, part 34. -/
import Derived.Test.YtlimihfdpfgedaaGreatDoorEV
namespace Go.Proofs.YtlimihfdpfgedaaGreatDoor
open Go.Ax
theorem runE445 : pureOk 1000 (eE445).2.2 (call Tryz.prog (cx []) 20000 (eE445).1 (eE445).2.1 h0) = true := by kernel_rfl
theorem runE446 : pureOk 1000 (eE446).2.2 (call Tryz.prog (cx []) 20000 (eE446).1 (eE446).2.1 h0) = true := by kernel_rfl
theorem runE447 : pureOk 1000 (eE447).2.2 (call Tryz.prog (cx []) 20000 (eE447).1 (eE447).2.1 h0) = true := by kernel_rfl
theorem runE448 : pureOkN 1000 (eE448).2.2 (callAll Tryz.prog (cx [eE43, eE47, eE50, eE51, eE54, eE55, eE56, eE57, eE58, eE59, eE62, eE63, eE64, eE65, eE66, eE181, eE379, eE426, eE433, eE439, eE440, eE441]) (nkE [pE7, pE8, pE9]) 20000 (eE448).1 (eE448).2.1) = true := by kernel_rfl
theorem runE449 : pureOk 1000 (eE449).2.2 (call Tryz.prog (cx [eE43, eE426, eE433, eE439]) 20000 (eE449).1 (eE449).2.1 h0) = true := by kernel_rfl
theorem runE450 : pureOk 1000 (eE450).2.2 (call Tryz.prog (cx [eE448, eE449]) 20000 (eE450).1 (eE450).2.1 h0) = true := by kernel_rfl
theorem runE451 : pureOk 1000 (eE451).2.2 (call Tryz.prog (cx [eE43, eE426, eE433, eE439]) 20000 (eE451).1 (eE451).2.1 h0) = true := by kernel_rfl
theorem runE452 : pureOk 1000 (eE452).2.2 (call Tryz.prog (cx []) 20000 (eE452).1 (eE452).2.1 h0) = true := by kernel_rfl
theorem runE453 : pureOk 1000 (eE453).2.2 (call Tryz.prog (cx [eE452]) 20000 (eE453).1 (eE453).2.1 h0) = true := by kernel_rfl
theorem runE454 : pureOk 1000 (eE454).2.2 (call Tryz.prog (cx [eE43, eE72, eE74, eE426, eE433, eE439, eE448, eE450, eE451, eE453]) 20000 (eE454).1 (eE454).2.1 h0) = true := by kernel_rfl
end Go.Proofs.YtlimihfdpfgedaaGreatDoor
