/- ScalarNames: calls, as the abstract machine reckons them, part 10. -/
import Derived.Test.YtolmndaigpcdaaaGreatDoorKV
namespace Go.Proofs.YtolmndaigpcdaaaGreatDoor
open Go.Ax
theorem runK108 : pureOk 1000 (eK108).2.2 (call Tryz.prog (cx [eK97]) 20000 (eK108).1 (eK108).2.1 h0) = true := by kernel_rfl
theorem runK109 : pureOk 1000 (eK109).2.2 (call Tryz.prog (cx [eK98, eK99, eK108]) 20000 (eK109).1 (eK109).2.1 h0) = true := by kernel_rfl
theorem runK110 : pureOk 1000 (eK110).2.2 (call Tryz.prog (cx [eK14, eK18, eK22, eK91, eK97]) 20000 (eK110).1 (eK110).2.1 h0) = true := by kernel_rfl
theorem runK111 : pureOk 1000 (eK111).2.2 (call Tryz.prog (cx [eK25]) 20000 (eK111).1 (eK111).2.1 h0) = true := by kernel_rfl
theorem runK112 : pureOk 1000 (eK112).2.2 (call Tryz.prog (cx []) 20000 (eK112).1 (eK112).2.1 h0) = true := by kernel_rfl
theorem runK113 : pureOk 1000 (eK113).2.2 (call Tryz.prog (cx [eK22, eK91, eK103, eK111, eK112]) 20000 (eK113).1 (eK113).2.1 h0) = true := by kernel_rfl
theorem runK114 : pureOk 1000 (eK114).2.2 (call Tryz.prog (cx [eK25]) 20000 (eK114).1 (eK114).2.1 h0) = true := by kernel_rfl
theorem runK115 : pureOk 1000 (eK115).2.2 (call Tryz.prog (cx [eK114]) 20000 (eK115).1 (eK115).2.1 h0) = true := by kernel_rfl
theorem runK116 : pureOk 1000 (eK116).2.2 (call Tryz.prog (cx [eK114]) 20000 (eK116).1 (eK116).2.1 h0) = true := by kernel_rfl
theorem runK117 : pureOk 1000 (eK117).2.2 (call Tryz.prog (cx [eK115, eK116]) 20000 (eK117).1 (eK117).2.1 h0) = true := by kernel_rfl
theorem runK118 : pureOk 1000 (eK118).2.2 (call Tryz.prog (cx [eK114]) 20000 (eK118).1 (eK118).2.1 h0) = true := by kernel_rfl
theorem runK119 : pureOk 1000 (eK119).2.2 (call Tryz.prog (cx [eK22, eK103, eK114, eK115, eK117, eK118]) 20000 (eK119).1 (eK119).2.1 h0) = true := by kernel_rfl
theorem runK120 : pureOk 1000 (eK120).2.2 (call Tryz.prog (cx [eK119]) 20000 (eK120).1 (eK120).2.1 h0) = true := by kernel_rfl
theorem runK121 : pureOk 1000 (eK121).2.2 (call Tryz.prog (cx [eK33, eK96, eK102, eK103, eK104, eK105, eK107, eK109, eK110, eK113, eK120]) 20000 (eK121).1 (eK121).2.1 h0) = true := by kernel_rfl
theorem runK122 : pureOk 1000 (eK122).2.2 (call Tryz.prog (cx []) 20000 (eK122).1 (eK122).2.1 h0) = true := by kernel_rfl
end Go.Proofs.YtolmndaigpcdaaaGreatDoor
