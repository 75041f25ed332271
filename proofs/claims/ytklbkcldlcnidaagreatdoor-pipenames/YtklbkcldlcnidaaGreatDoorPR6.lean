/- PipeNames: calls, as the abstract machine reckons them, part 6. -/
import Derived.Test.YtklbkcldlcnidaaGreatDoorPV
namespace Go.Proofs.YtklbkcldlcnidaaGreatDoor
open Go.Ax
theorem runP128 : pureOk 1000 (eP128).2.2 (call Tryz.prog (cx [eP127]) 20000 (eP128).1 (eP128).2.1 h0) = true := by kernel_rfl
theorem runP129 : pureOk 1000 (eP129).2.2 (call Tryz.prog (cx [eP34]) 20000 (eP129).1 (eP129).2.1 h0) = true := by kernel_rfl
theorem runP130 : pureOk 1000 (eP130).2.2 (call Tryz.prog (cx [eP129]) 20000 (eP130).1 (eP130).2.1 h0) = true := by kernel_rfl
theorem runP131 : pureOk 1000 (eP131).2.2 (call Tryz.prog (cx [eP130]) 20000 (eP131).1 (eP131).2.1 h0) = true := by kernel_rfl
theorem runP132 : pureOk 1000 (eP132).2.2 (call Tryz.prog (cx [eP130]) 20000 (eP132).1 (eP132).2.1 h0) = true := by kernel_rfl
theorem runP133 : pureOk 1000 (eP133).2.2 (call Tryz.prog (cx [eP131, eP132]) 20000 (eP133).1 (eP133).2.1 h0) = true := by kernel_rfl
theorem runP134 : pureOk 1000 (eP134).2.2 (call Tryz.prog (cx [eP130]) 20000 (eP134).1 (eP134).2.1 h0) = true := by kernel_rfl
theorem runP135 : pureOk 1000 (eP135).2.2 (call Tryz.prog (cx [eP129]) 20000 (eP135).1 (eP135).2.1 h0) = true := by kernel_rfl
theorem runP136 : pureOk 1000 (eP136).2.2 (call Tryz.prog (cx [eP135]) 20000 (eP136).1 (eP136).2.1 h0) = true := by kernel_rfl
theorem runP137 : pureOk 1000 (eP137).2.2 (call Tryz.prog (cx [eP135]) 20000 (eP137).1 (eP137).2.1 h0) = true := by kernel_rfl
theorem runP138 : pureOk 1000 (eP138).2.2 (call Tryz.prog (cx [eP136, eP137]) 20000 (eP138).1 (eP138).2.1 h0) = true := by kernel_rfl
theorem runP139 : pureOk 1000 (eP139).2.2 (call Tryz.prog (cx [eP135]) 20000 (eP139).1 (eP139).2.1 h0) = true := by kernel_rfl
theorem runP140 : pureOk 1000 (eP140).2.2 (call Tryz.prog (cx [eP8, eP27, eP29, eP30, eP31, eP32, eP41, eP52, eP91, eP93, eP125, eP126, eP129, eP131, eP133, eP134, eP136, eP138, eP139]) 20000 (eP140).1 (eP140).2.1 h0) = true := by kernel_rfl
theorem runP141 : pureOk 1000 (eP141).2.2 (call Tryz.prog (cx [eP54]) 20000 (eP141).1 (eP141).2.1 h0) = true := by kernel_rfl
theorem runP142 : pureOk 1000 (eP142).2.2 (call Tryz.prog (cx [eP140]) 20000 (eP142).1 (eP142).2.1 h0) = true := by kernel_rfl
theorem runP143 : pureOk 1000 (eP143).2.2 (call Tryz.prog (cx []) 20000 (eP143).1 (eP143).2.1 h0) = true := by kernel_rfl
theorem runP144 : pureOk 1000 (eP144).2.2 (call Tryz.prog (cx [eP130, eP135, eP142]) 20000 (eP144).1 (eP144).2.1 h0) = true := by kernel_rfl
theorem runP145 : pureOk 1000 (eP145).2.2 (call Tryz.prog (cx []) 20000 (eP145).1 (eP145).2.1 h0) = true := by kernel_rfl
theorem runP146 : pureOk 1000 (eP146).2.2 (call Tryz.prog (cx [eP145]) 20000 (eP146).1 (eP146).2.1 h0) = true := by kernel_rfl
theorem runP147 : pureOk 1000 (eP147).2.2 (call Tryz.prog (cx [eP145]) 20000 (eP147).1 (eP147).2.1 h0) = true := by kernel_rfl
theorem runP148 : pureOk 1000 (eP148).2.2 (call Tryz.prog (cx [eP145]) 20000 (eP148).1 (eP148).2.1 h0) = true := by kernel_rfl
theorem runP149 : pureOk 1000 (eP149).2.2 (call Tryz.prog (cx [eP145]) 20000 (eP149).1 (eP149).2.1 h0) = true := by kernel_rfl
theorem runP150 : pureOk 1000 (eP150).2.2 (call Tryz.prog (cx [eP145]) 20000 (eP150).1 (eP150).2.1 h0) = true := by kernel_rfl
theorem runP151 : pureOk 1000 (eP151).2.2 (call Tryz.prog (cx [eP145]) 20000 (eP151).1 (eP151).2.1 h0) = true := by kernel_rfl
theorem runP152 : pureOk 1000 (eP152).2.2 (call Tryz.prog (cx [eP145]) 20000 (eP152).1 (eP152).2.1 h0) = true := by kernel_rfl
theorem runP153 : pureOkN 1000 (eP153).2.2 (callAll Tryz.prog (cx [eP64, eP65, eP66, eP130, eP135, eP142, eP143, eP144, eP146, eP147, eP148, eP149, eP150, eP151, eP152]) (nkP []) 20000 (eP153).1 (eP153).2.1) = true := by kernel_rfl
theorem runP154 : pureOk 1000 (eP154).2.2 (call Tryz.prog (cx [eP153]) 20000 (eP154).1 (eP154).2.1 h0) = true := by kernel_rfl
theorem runP155 : pureOk 1000 (eP155).2.2 (call Tryz.prog (cx [eP140, eP141, eP154]) 20000 (eP155).1 (eP155).2.1 h0) = true := by kernel_rfl
theorem runP156 : pureOk 1000 (eP156).2.2 (call Tryz.prog (cx [eP155]) 20000 (eP156).1 (eP156).2.1 h0) = true := by kernel_rfl
theorem runP157 : pureOk 1000 (eP157).2.2 (call Tryz.prog (cx [eP28, eP30, eP52, eP54, eP93, eP115, eP125, eP126, eP140]) 20000 (eP157).1 (eP157).2.1 h0) = true := by kernel_rfl
theorem runP158 : pureOk 1000 (eP158).2.2 (call Tryz.prog (cx [eP157]) 20000 (eP158).1 (eP158).2.1 h0) = true := by kernel_rfl
theorem runP159 : pureOk 1000 (eP159).2.2 (call Tryz.prog (cx [eP34]) 20000 (eP159).1 (eP159).2.1 h0) = true := by kernel_rfl
theorem runP160 : pureOk 1000 (eP160).2.2 (call Tryz.prog (cx [eP159]) 20000 (eP160).1 (eP160).2.1 h0) = true := by kernel_rfl
theorem runP161 : pureOk 1000 (eP161).2.2 (call Tryz.prog (cx [eP160]) 20000 (eP161).1 (eP161).2.1 h0) = true := by kernel_rfl
theorem runP162 : pureOk 1000 (eP162).2.2 (call Tryz.prog (cx [eP160]) 20000 (eP162).1 (eP162).2.1 h0) = true := by kernel_rfl
theorem runP163 : pureOk 1000 (eP163).2.2 (call Tryz.prog (cx [eP161, eP162]) 20000 (eP163).1 (eP163).2.1 h0) = true := by kernel_rfl
theorem runP164 : pureOk 1000 (eP164).2.2 (call Tryz.prog (cx [eP160]) 20000 (eP164).1 (eP164).2.1 h0) = true := by kernel_rfl
theorem runP165 : pureOk 1000 (eP165).2.2 (call Tryz.prog (cx [eP159]) 20000 (eP165).1 (eP165).2.1 h0) = true := by kernel_rfl
theorem runP166 : pureOk 1000 (eP166).2.2 (call Tryz.prog (cx [eP165]) 20000 (eP166).1 (eP166).2.1 h0) = true := by kernel_rfl
theorem runP167 : pureOk 1000 (eP167).2.2 (call Tryz.prog (cx [eP165]) 20000 (eP167).1 (eP167).2.1 h0) = true := by kernel_rfl
theorem runP168 : pureOk 1000 (eP168).2.2 (call Tryz.prog (cx [eP166, eP167]) 20000 (eP168).1 (eP168).2.1 h0) = true := by kernel_rfl
theorem runP169 : pureOk 1000 (eP169).2.2 (call Tryz.prog (cx [eP165]) 20000 (eP169).1 (eP169).2.1 h0) = true := by kernel_rfl
end Go.Proofs.YtklbkcldlcnidaaGreatDoor
