/- PromoteNames: calls, as the abstract machine reckons them, part 12. -/
import Derived.Test.YtodpcmfblpmheaaGreatDoorPV
namespace Go.Proofs.YtodpcmfblpmheaaGreatDoor
open Go.Ax
theorem runP153 : pureOk 1000 (eP153).2.2 (call Tryz.prog (cx [eP14, eP17, eP20, eP21, eP28, eP29, eP40, eP41, eP51, eP136, eP140, eP142, eP144, eP145, eP146, eP147, eP149, eP151, eP152]) 20000 (eP153).1 (eP153).2.1 h0) = true := by kernel_rfl
theorem runP154 : pureOk 1000 (eP154).2.2 (call Tryz.prog (cx [eP153]) 20000 (eP154).1 (eP154).2.1 h0) = true := by kernel_rfl
theorem runP155 : pureOk 1000 (eP155).2.2 (call Tryz.prog (cx []) 20000 (eP155).1 (eP155).2.1 h0) = true := by kernel_rfl
theorem runP156 : pureOk 1000 (eP156).2.2 (call Tryz.prog (cx [eP59, eP141, eP148, eP154]) 20000 (eP156).1 (eP156).2.1 h0) = true := by kernel_rfl
theorem runP157 : pureOk 1000 (eP157).2.2 (call Tryz.prog (cx []) 20000 (eP157).1 (eP157).2.1 h0) = true := by kernel_rfl
theorem runP158 : pureOk 1000 (eP158).2.2 (call Tryz.prog (cx [eP157]) 20000 (eP158).1 (eP158).2.1 h0) = true := by kernel_rfl
theorem runP159 : pureOk 1000 (eP159).2.2 (call Tryz.prog (cx [eP157]) 20000 (eP159).1 (eP159).2.1 h0) = true := by kernel_rfl
theorem runP160 : pureOk 1000 (eP160).2.2 (call Tryz.prog (cx [eP157]) 20000 (eP160).1 (eP160).2.1 h0) = true := by kernel_rfl
theorem runP161 : pureOk 1000 (eP161).2.2 (call Tryz.prog (cx [eP157]) 20000 (eP161).1 (eP161).2.1 h0) = true := by kernel_rfl
theorem runP162 : pureOk 1000 (eP162).2.2 (call Tryz.prog (cx [eP157]) 20000 (eP162).1 (eP162).2.1 h0) = true := by kernel_rfl
theorem runP163 : pureOk 1000 (eP163).2.2 (call Tryz.prog (cx [eP157]) 20000 (eP163).1 (eP163).2.1 h0) = true := by kernel_rfl
theorem runP164 : pureOk 1000 (eP164).2.2 (call Tryz.prog (cx [eP157]) 20000 (eP164).1 (eP164).2.1 h0) = true := by kernel_rfl
theorem runP165 : pureOk 1000 (eP165).2.2 (call Tryz.prog (cx [eP157]) 20000 (eP165).1 (eP165).2.1 h0) = true := by kernel_rfl
theorem runP166 : pureOk 1000 (eP166).2.2 (call Tryz.prog (cx [eP157]) 20000 (eP166).1 (eP166).2.1 h0) = true := by kernel_rfl
theorem runP167 : pureOk 1000 (eP167).2.2 (call Tryz.prog (cx [eP157]) 20000 (eP167).1 (eP167).2.1 h0) = true := by kernel_rfl
theorem runP168 : pureOkN 1000 (eP168).2.2 (callAll Tryz.prog (cx [eP59, eP64, eP65, eP66, eP141, eP148, eP154, eP155, eP156, eP158, eP159, eP160, eP161, eP162, eP163, eP164, eP165, eP166, eP167]) nkP 20000 (eP168).1 (eP168).2.1) = true := by kernel_rfl
theorem runP169 : pureOk 1000 (eP169).2.2 (call Tryz.prog (cx [eP140]) 20000 (eP169).1 (eP169).2.1 h0) = true := by kernel_rfl
theorem runP170 : pureOk 1000 (eP170).2.2 (call Tryz.prog (cx [eP141]) 20000 (eP170).1 (eP170).2.1 h0) = true := by kernel_rfl
theorem runP171 : pureOk 1000 (eP171).2.2 (call Tryz.prog (cx [eP154, eP168, eP169, eP170]) 20000 (eP171).1 (eP171).2.1 h0) = true := by kernel_rfl
theorem runP172 : pureOk 1000 (eP172).2.2 (call Tryz.prog (cx [eP59, eP141, eP148, eP154]) 20000 (eP172).1 (eP172).2.1 h0) = true := by kernel_rfl
theorem runP173 : pureOk 1000 (eP173).2.2 (call Tryz.prog (cx [eP168, eP172]) 20000 (eP173).1 (eP173).2.1 h0) = true := by kernel_rfl
theorem runP174 : pureOk 1000 (eP174).2.2 (call Tryz.prog (cx [eP59, eP141, eP148, eP154]) 20000 (eP174).1 (eP174).2.1 h0) = true := by kernel_rfl
theorem runP175 : pureOk 1000 (eP175).2.2 (call Tryz.prog (cx []) 20000 (eP175).1 (eP175).2.1 h0) = true := by kernel_rfl
end Go.Proofs.YtodpcmfblpmheaaGreatDoor
