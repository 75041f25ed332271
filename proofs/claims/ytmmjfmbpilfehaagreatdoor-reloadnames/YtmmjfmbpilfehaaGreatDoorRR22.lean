/- ReloadNames: calls, as the abstract machine reckons them, part 22. -/
import Derived.Test.YtmmjfmbpilfehaaGreatDoorRV
namespace Go.Proofs.YtmmjfmbpilfehaaGreatDoor
open Go.Ax
theorem runR305 : pureOk 1000 (eR305).2.2 (call Tryz.prog (cx [eR11, eR19, eR25, eR38, eR39, eR52, eR148, eR186, eR237, eR238, eR239, eR293, eR295, eR297, eR298, eR300, eR302, eR303, eR304]) 20000 (eR305).1 (eR305).2.1 h0) = true := by kernel_rfl
theorem runR306 : pureOk 1000 (eR306).2.2 (call Tryz.prog (cx [eR305]) 20000 (eR306).1 (eR306).2.1 h0) = true := by kernel_rfl
theorem runR307 : pureOk 1000 (eR307).2.2 (call Tryz.prog (cx []) 20000 (eR307).1 (eR307).2.1 h0) = true := by kernel_rfl
theorem runR308 : pureOk 1000 (eR308).2.2 (call Tryz.prog (cx [eR59, eR294, eR299, eR306]) 20000 (eR308).1 (eR308).2.1 h0) = true := by kernel_rfl
theorem runR309 : pureOk 1000 (eR309).2.2 (call Tryz.prog (cx []) 20000 (eR309).1 (eR309).2.1 h0) = true := by kernel_rfl
theorem runR310 : pureOk 1000 (eR310).2.2 (call Tryz.prog (cx [eR309]) 20000 (eR310).1 (eR310).2.1 h0) = true := by kernel_rfl
theorem runR311 : pureOk 1000 (eR311).2.2 (call Tryz.prog (cx [eR309]) 20000 (eR311).1 (eR311).2.1 h0) = true := by kernel_rfl
theorem runR312 : pureOk 1000 (eR312).2.2 (call Tryz.prog (cx [eR309]) 20000 (eR312).1 (eR312).2.1 h0) = true := by kernel_rfl
theorem runR313 : pureOk 1000 (eR313).2.2 (call Tryz.prog (cx [eR309]) 20000 (eR313).1 (eR313).2.1 h0) = true := by kernel_rfl
theorem runR314 : pureOk 1000 (eR314).2.2 (call Tryz.prog (cx [eR309]) 20000 (eR314).1 (eR314).2.1 h0) = true := by kernel_rfl
theorem runR315 : pureOk 1000 (eR315).2.2 (call Tryz.prog (cx [eR309]) 20000 (eR315).1 (eR315).2.1 h0) = true := by kernel_rfl
theorem runR316 : pureOk 1000 (eR316).2.2 (call Tryz.prog (cx [eR309]) 20000 (eR316).1 (eR316).2.1 h0) = true := by kernel_rfl
theorem runR317 : pureOk 1000 (eR317).2.2 (call Tryz.prog (cx [eR309]) 20000 (eR317).1 (eR317).2.1 h0) = true := by kernel_rfl
theorem runR318 : pureOk 1000 (eR318).2.2 (call Tryz.prog (cx [eR309]) 20000 (eR318).1 (eR318).2.1 h0) = true := by kernel_rfl
theorem runR319 : pureOk 1000 (eR319).2.2 (call Tryz.prog (cx [eR309]) 20000 (eR319).1 (eR319).2.1 h0) = true := by kernel_rfl
theorem runR320 : pureOk 1000 (eR320).2.2 (call Tryz.prog (cx [eR309]) 20000 (eR320).1 (eR320).2.1 h0) = true := by kernel_rfl
theorem runR321 : pureOkN 1000 (eR321).2.2 (callAll Tryz.prog (cx [eR59, eR64, eR65, eR66, eR172, eR173, eR294, eR299, eR306, eR307, eR308, eR310, eR311, eR312, eR313, eR314, eR315, eR316, eR317, eR318, eR319, eR320]) nkR 20000 (eR321).1 (eR321).2.1) = true := by kernel_rfl
theorem runR322 : pureOk 1000 (eR322).2.2 (call Tryz.prog (cx [eR321]) 20000 (eR322).1 (eR322).2.1 h0) = true := by kernel_rfl
theorem runR323 : pureOk 1000 (eR323).2.2 (call Tryz.prog (cx [eR242, eR243, eR262, eR263, eR267, eR288, eR289, eR292, eR322]) 20000 (eR323).1 (eR323).2.1 h0) = true := by kernel_rfl
theorem runR324 : pureOk 1000 (eR324).2.2 (call Tryz.prog (cx []) 20000 (eR324).1 (eR324).2.1 h0) = true := by kernel_rfl
theorem runR325 : pureOk 1000 (eR325).2.2 (call Tryz.prog (cx []) 20000 (eR325).1 (eR325).2.1 h0) = true := by kernel_rfl
end Go.Proofs.YtmmjfmbpilfehaaGreatDoor
