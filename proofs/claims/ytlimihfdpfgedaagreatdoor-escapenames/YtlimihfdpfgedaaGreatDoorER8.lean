/- EscapeNames: calls, as the abstract machine reckons them, part 8. -/
import Derived.Test.YtlimihfdpfgedaaGreatDoorEV
namespace Go.Proofs.YtlimihfdpfgedaaGreatDoor
open Go.Ax
theorem runE152 : pureOk 1000 (eE152).2.2 (call Tryz.prog (cx [eE3, eE6, eE9, eE10, eE11, eE12, eE13, eE16, eE17, eE18, eE23, eE79, eE80, eE111, eE144, eE145, eE146, eE147, eE150, eE151]) 20000 (eE152).1 (eE152).2.1 h0) = true := by kernel_rfl
theorem runE153 : pureOk 1000 (eE153).2.2 (call Tryz.prog (cx [eE27]) 20000 (eE153).1 (eE153).2.1 h0) = true := by kernel_rfl
theorem runE154 : pureOk 1000 (eE154).2.2 (call Tryz.prog (cx [eE153]) 20000 (eE154).1 (eE154).2.1 h0) = true := by kernel_rfl
theorem runE155 : pureOk 1000 (eE155).2.2 (call Tryz.prog (cx [eE154]) 20000 (eE155).1 (eE155).2.1 h0) = true := by kernel_rfl
theorem runE156 : pureOk 1000 (eE156).2.2 (call Tryz.prog (cx [eE154]) 20000 (eE156).1 (eE156).2.1 h0) = true := by kernel_rfl
theorem runE157 : pureOk 1000 (eE157).2.2 (call Tryz.prog (cx [eE155, eE156]) 20000 (eE157).1 (eE157).2.1 h0) = true := by kernel_rfl
theorem runE158 : pureOk 1000 (eE158).2.2 (call Tryz.prog (cx [eE154]) 20000 (eE158).1 (eE158).2.1 h0) = true := by kernel_rfl
theorem runE159 : pureOk 1000 (eE159).2.2 (call Tryz.prog (cx []) 20000 (eE159).1 (eE159).2.1 h0) = true := by kernel_rfl
theorem runE160 : pureOk 1000 (eE160).2.2 (call Tryz.prog (cx []) 20000 (eE160).1 (eE160).2.1 h0) = true := by kernel_rfl
theorem runE161 : pureOk 1000 (eE161).2.2 (call Tryz.prog (cx []) 20000 (eE161).1 (eE161).2.1 h0) = true := by kernel_rfl
theorem runE162 : pureOk 1000 (eE162).2.2 (call Tryz.prog (cx []) 20000 (eE162).1 (eE162).2.1 h0) = true := by kernel_rfl
theorem runE163 : pureOk 1000 (eE163).2.2 (call Tryz.prog (cx []) 20000 (eE163).1 (eE163).2.1 h0) = true := by kernel_rfl
theorem runE164 : pureOk 1000 (eE164).2.2 (call Tryz.prog (cx [eE153]) 20000 (eE164).1 (eE164).2.1 h0) = true := by kernel_rfl
theorem runE165 : pureOk 1000 (eE165).2.2 (call Tryz.prog (cx [eE164]) 20000 (eE165).1 (eE165).2.1 h0) = true := by kernel_rfl
theorem runE166 : pureOk 1000 (eE166).2.2 (call Tryz.prog (cx [eE164]) 20000 (eE166).1 (eE166).2.1 h0) = true := by kernel_rfl
theorem runE167 : pureOk 1000 (eE167).2.2 (call Tryz.prog (cx [eE165, eE166]) 20000 (eE167).1 (eE167).2.1 h0) = true := by kernel_rfl
theorem runE168 : pureOk 1000 (eE168).2.2 (call Tryz.prog (cx [eE164]) 20000 (eE168).1 (eE168).2.1 h0) = true := by kernel_rfl
theorem runE169 : pureOk 1000 (eE169).2.2 (call Tryz.prog (cx [eE11, eE17, eE34, eE35, eE79, eE129, eE145, eE153, eE155, eE157, eE158, eE159, eE160, eE161, eE162, eE163, eE165, eE167, eE168]) 20000 (eE169).1 (eE169).2.1 h0) = true := by kernel_rfl
theorem runE170 : pureOk 1000 (eE170).2.2 (call Tryz.prog (cx [eE169]) 20000 (eE170).1 (eE170).2.1 h0) = true := by kernel_rfl
theorem runE171 : pureOk 1000 (eE171).2.2 (call Tryz.prog (cx []) 20000 (eE171).1 (eE171).2.1 h0) = true := by kernel_rfl
theorem runE172 : pureOk 1000 (eE172).2.2 (call Tryz.prog (cx [eE43, eE46, eE154, eE164, eE170]) 20000 (eE172).1 (eE172).2.1 h0) = true := by kernel_rfl
theorem runE173 : pureOk 1000 (eE173).2.2 (call Tryz.prog (cx []) 20000 (eE173).1 (eE173).2.1 h0) = true := by kernel_rfl
theorem runE174 : pureOk 1000 (eE174).2.2 (call Tryz.prog (cx [eE173]) 20000 (eE174).1 (eE174).2.1 h0) = true := by kernel_rfl
theorem runE175 : pureOk 1000 (eE175).2.2 (call Tryz.prog (cx [eE173]) 20000 (eE175).1 (eE175).2.1 h0) = true := by kernel_rfl
theorem runE176 : pureOk 1000 (eE176).2.2 (call Tryz.prog (cx [eE173]) 20000 (eE176).1 (eE176).2.1 h0) = true := by kernel_rfl
theorem runE177 : pureOk 1000 (eE177).2.2 (call Tryz.prog (cx []) 20000 (eE177).1 (eE177).2.1 h0) = true := by kernel_rfl
end Go.Proofs.YtlimihfdpfgedaaGreatDoor
