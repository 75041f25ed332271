/- ScalarNames: calls, as the abstract machine reckons them, part 27. -/
import Derived.Test.YtolmndaigpcdaaaGreatDoorKV
namespace Go.Proofs.YtolmndaigpcdaaaGreatDoor
open Go.Ax
theorem runK264 : pureOk 1000 (eK264).2.2 (call Tryz.prog (cx [eK262, eK263]) 20000 (eK264).1 (eK264).2.1 h0) = true := by kernel_rfl
theorem runK265 : pureOk 1000 (eK265).2.2 (call Tryz.prog (cx [eK261]) 20000 (eK265).1 (eK265).2.1 h0) = true := by kernel_rfl
theorem runK266 : pureOk 1000 (eK266).2.2 (call Tryz.prog (cx [eK22, eK31, eK261, eK262, eK264, eK265]) 20000 (eK266).1 (eK266).2.1 h0) = true := by kernel_rfl
theorem runK267 : pureOk 1000 (eK267).2.2 (call Tryz.prog (cx [eK266]) 20000 (eK267).1 (eK267).2.1 h0) = true := by kernel_rfl
theorem runK268 : pureOk 1000 (eK268).2.2 (call Tryz.prog (cx [eK261]) 20000 (eK268).1 (eK268).2.1 h0) = true := by kernel_rfl
theorem runK269 : pureOk 1000 (eK269).2.2 (call Tryz.prog (cx [eK268]) 20000 (eK269).1 (eK269).2.1 h0) = true := by kernel_rfl
theorem runK270 : pureOk 1000 (eK270).2.2 (call Tryz.prog (cx [eK25]) 20000 (eK270).1 (eK270).2.1 h0) = true := by kernel_rfl
theorem runK271 : pureOk 1000 (eK271).2.2 (call Tryz.prog (cx [eK16, eK270]) 20000 (eK271).1 (eK271).2.1 h0) = true := by kernel_rfl
theorem runK272 : pureOk 1000 (eK272).2.2 (call Tryz.prog (cx [eK25]) 20000 (eK272).1 (eK272).2.1 h0) = true := by kernel_rfl
theorem runK273 : pureOk 1000 (eK273).2.2 (call Tryz.prog (cx [eK272]) 20000 (eK273).1 (eK273).2.1 h0) = true := by kernel_rfl
theorem runK274 : pureOk 1000 (eK274).2.2 (call Tryz.prog (cx [eK272]) 20000 (eK274).1 (eK274).2.1 h0) = true := by kernel_rfl
theorem runK275 : pureOk 1000 (eK275).2.2 (call Tryz.prog (cx [eK273, eK274]) 20000 (eK275).1 (eK275).2.1 h0) = true := by kernel_rfl
theorem runK276 : pureOk 1000 (eK276).2.2 (call Tryz.prog (cx [eK272]) 20000 (eK276).1 (eK276).2.1 h0) = true := by kernel_rfl
theorem runK277 : pureOk 1000 (eK277).2.2 (call Tryz.prog (cx [eK16, eK272, eK273, eK275, eK276]) 20000 (eK277).1 (eK277).2.1 h0) = true := by kernel_rfl
theorem runK278 : pureOk 1000 (eK278).2.2 (call Tryz.prog (cx [eK277]) 20000 (eK278).1 (eK278).2.1 h0) = true := by kernel_rfl
theorem runK279 : pureOk 1000 (eK279).2.2 (call Tryz.prog (cx [eK22, eK31, eK260, eK267, eK269, eK271, eK278]) 20000 (eK279).1 (eK279).2.1 h0) = true := by kernel_rfl
theorem runK280 : pureOk 1000 (eK280).2.2 (call Tryz.prog (cx []) 20000 (eK280).1 (eK280).2.1 h0) = true := by kernel_rfl
end Go.Proofs.YtolmndaigpcdaaaGreatDoor
