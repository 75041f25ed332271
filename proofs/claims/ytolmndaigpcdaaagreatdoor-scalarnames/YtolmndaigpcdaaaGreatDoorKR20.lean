/- ScalarNames: calls, as the abstract machine reckons them, part 20. -/
import Derived.Test.YtolmndaigpcdaaaGreatDoorKV
namespace Go.Proofs.YtolmndaigpcdaaaGreatDoor
open Go.Ax
theorem runK193 : pureOk 1000 (eK193).2.2 (call Tryz.prog (cx [eK31, eK33, eK102, eK104, eK112, eK186, eK187, eK189, eK190, eK191, eK192]) 20000 (eK193).1 (eK193).2.1 h0) = true := by kernel_rfl
theorem runK194 : pureOk 1000 (eK194).2.2 (call Tryz.prog (cx [eK193]) 20000 (eK194).1 (eK194).2.1 h0) = true := by kernel_rfl
theorem runK195 : pureOk 1000 (eK195).2.2 (call Tryz.prog (cx [eK186]) 20000 (eK195).1 (eK195).2.1 h0) = true := by kernel_rfl
theorem runK196 : pureOk 1000 (eK196).2.2 (call Tryz.prog (cx [eK187, eK188, eK195]) 20000 (eK196).1 (eK196).2.1 h0) = true := by kernel_rfl
theorem runK197 : pureOk 1000 (eK197).2.2 (call Tryz.prog (cx [eK14, eK16, eK18, eK22, eK186]) 20000 (eK197).1 (eK197).2.1 h0) = true := by kernel_rfl
theorem runK198 : pureOk 1000 (eK198).2.2 (call Tryz.prog (cx [eK25]) 20000 (eK198).1 (eK198).2.1 h0) = true := by kernel_rfl
theorem runK199 : pureOk 1000 (eK199).2.2 (call Tryz.prog (cx []) 20000 (eK199).1 (eK199).2.1 h0) = true := by kernel_rfl
theorem runK200 : pureOk 1000 (eK200).2.2 (call Tryz.prog (cx [eK14, eK16, eK18, eK22, eK31, eK112, eK191, eK198, eK199]) 20000 (eK200).1 (eK200).2.1 h0) = true := by kernel_rfl
theorem runK201 : pureOk 1000 (eK201).2.2 (call Tryz.prog (cx [eK25]) 20000 (eK201).1 (eK201).2.1 h0) = true := by kernel_rfl
theorem runK202 : pureOk 1000 (eK202).2.2 (call Tryz.prog (cx [eK201]) 20000 (eK202).1 (eK202).2.1 h0) = true := by kernel_rfl
theorem runK203 : pureOk 1000 (eK203).2.2 (call Tryz.prog (cx [eK201]) 20000 (eK203).1 (eK203).2.1 h0) = true := by kernel_rfl
theorem runK204 : pureOk 1000 (eK204).2.2 (call Tryz.prog (cx [eK202, eK203]) 20000 (eK204).1 (eK204).2.1 h0) = true := by kernel_rfl
theorem runK205 : pureOk 1000 (eK205).2.2 (call Tryz.prog (cx [eK201]) 20000 (eK205).1 (eK205).2.1 h0) = true := by kernel_rfl
end Go.Proofs.YtolmndaigpcdaaaGreatDoor
