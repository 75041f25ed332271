/- PromoteNames: calls, as the abstract machine reckons them, part 16. -/
import Derived.Test.YtodpcmfblpmheaaGreatDoorPV
namespace Go.Proofs.YtodpcmfblpmheaaGreatDoor
open Go.Ax
theorem runP186 : pureOk 1000 (eP186).2.2 (call Tryz.prog (cx [eP5]) 20000 (eP186).1 (eP186).2.1 h0) = true := by kernel_rfl
theorem runP187 : pureOk 1000 (eP187).2.2 (call Tryz.prog (cx [eP12]) 20000 (eP187).1 (eP187).2.1 h0) = true := by kernel_rfl
theorem runP188 : pureOk 1000 (eP188).2.2 (call Tryz.prog (cx []) 20000 (eP188).1 (eP188).2.1 h0) = true := by kernel_rfl
theorem runP189 : pureOk 1000 (eP189).2.2 (call Tryz.prog (cx []) 20000 (eP189).1 (eP189).2.1 h0) = true := by kernel_rfl
theorem runP190 : pureOk 1000 (eP190).2.2 (call Tryz.prog (cx [eP2]) 20000 (eP190).1 (eP190).2.1 h0) = true := by kernel_rfl
theorem runP191 : pureOk 1000 (eP191).2.2 (call Tryz.prog (cx [eP12]) 20000 (eP191).1 (eP191).2.1 h0) = true := by kernel_rfl
theorem runP192 : pureOk 1000 (eP192).2.2 (call Tryz.prog (cx []) 20000 (eP192).1 (eP192).2.1 h0) = true := by kernel_rfl
theorem runP193 : pureOk 1000 (eP193).2.2 (call Tryz.prog (cx [eP192]) 20000 (eP193).1 (eP193).2.1 h0) = true := by kernel_rfl
theorem runP194 : pureOk 1000 (eP194).2.2 (call Tryz.prog (cx [eP193]) 20000 (eP194).1 (eP194).2.1 h0) = true := by kernel_rfl
theorem runP195 : pureOk 1000 (eP195).2.2 (call Tryz.prog (cx []) 20000 (eP195).1 (eP195).2.1 h0) = true := by kernel_rfl
theorem runP196 : pureOk 1000 (eP196).2.2 (call Tryz.prog (cx [eP195]) 20000 (eP196).1 (eP196).2.1 h0) = true := by kernel_rfl
theorem runP197 : pureOk 1000 (eP197).2.2 (call Tryz.prog (cx [eP196]) 20000 (eP197).1 (eP197).2.1 h0) = true := by kernel_rfl
theorem runP198 : pureOk 1000 (eP198).2.2 (call Tryz.prog (cx [eP8]) 20000 (eP198).1 (eP198).2.1 h0) = true := by kernel_rfl
theorem runP199 : pureOk 1000 (eP199).2.2 (call Tryz.prog (cx []) 20000 (eP199).1 (eP199).2.1 h0) = true := by kernel_rfl
theorem runP200 : pureOk 1000 (eP200).2.2 (call Tryz.prog (cx []) 20000 (eP200).1 (eP200).2.1 h0) = true := by kernel_rfl
theorem runP201 : pureOk 1000 (eP201).2.2 (call Tryz.prog (cx [eP138]) 20000 (eP201).1 (eP201).2.1 h0) = true := by kernel_rfl
theorem runP202 : pureOk 1000 (eP202).2.2 (call Tryz.prog (cx [eP201]) 20000 (eP202).1 (eP202).2.1 h0) = true := by kernel_rfl
end Go.Proofs.YtodpcmfblpmheaaGreatDoor
