/- PipeNames: calls, as the abstract machine reckons them, part 2. -/
import Derived.Test.YtklbkcldlcnidaaGreatDoorPV
namespace Go.Proofs.YtklbkcldlcnidaaGreatDoor
open Go.Ax
theorem runP61 : pureOk 1000 (eP61).2.2 (call Tryz.prog (cx [eP36, eP47, eP56, eP59]) 20000 (eP61).1 (eP61).2.1 h0) = true := by kernel_rfl
theorem runP62 : pureOk 1000 (eP62).2.2 (call Tryz.prog (cx []) 20000 (eP62).1 (eP62).2.1 h0) = true := by kernel_rfl
theorem runP63 : pureOk 1000 (eP63).2.2 (call Tryz.prog (cx [eP62]) 20000 (eP63).1 (eP63).2.1 h0) = true := by kernel_rfl
theorem runP64 : pureOk 1000 (eP64).2.2 (call Tryz.prog (cx []) 20000 (eP64).1 (eP64).2.1 h0) = true := by kernel_rfl
theorem runP65 : pureOk 1000 (eP65).2.2 (call Tryz.prog (cx []) 20000 (eP65).1 (eP65).2.1 h0) = true := by kernel_rfl
theorem runP66 : pureOk 1000 (eP66).2.2 (call Tryz.prog (cx []) 20000 (eP66).1 (eP66).2.1 h0) = true := by kernel_rfl
theorem runP67 : pureOk 1000 (eP67).2.2 (call Tryz.prog (cx [eP62]) 20000 (eP67).1 (eP67).2.1 h0) = true := by kernel_rfl
theorem runP68 : pureOk 1000 (eP68).2.2 (call Tryz.prog (cx []) 20000 (eP68).1 (eP68).2.1 h0) = true := by kernel_rfl
theorem runP69 : pureOk 1000 (eP69).2.2 (call Tryz.prog (cx []) 20000 (eP69).1 (eP69).2.1 h0) = true := by kernel_rfl
theorem runP70 : pureOk 1000 (eP70).2.2 (call Tryz.prog (cx [eP62]) 20000 (eP70).1 (eP70).2.1 h0) = true := by kernel_rfl
theorem runP71 : pureOk 1000 (eP71).2.2 (call Tryz.prog (cx [eP62]) 20000 (eP71).1 (eP71).2.1 h0) = true := by kernel_rfl
theorem runP72 : pureOk 1000 (eP72).2.2 (call Tryz.prog (cx [eP64]) 20000 (eP72).1 (eP72).2.1 h0) = true := by kernel_rfl
theorem runP73 : pureOk 1000 (eP73).2.2 (call Tryz.prog (cx [eP62]) 20000 (eP73).1 (eP73).2.1 h0) = true := by kernel_rfl
theorem runP74 : pureOk 1000 (eP74).2.2 (call Tryz.prog (cx [eP62]) 20000 (eP74).1 (eP74).2.1 h0) = true := by kernel_rfl
theorem runP75 : pureOk 1000 (eP75).2.2 (call Tryz.prog (cx [eP62]) 20000 (eP75).1 (eP75).2.1 h0) = true := by kernel_rfl
theorem runP76 : pureOk 1000 (eP76).2.2 (call Tryz.prog (cx [eP62]) 20000 (eP76).1 (eP76).2.1 h0) = true := by kernel_rfl
theorem runP77 : pureOk 1000 (eP77).2.2 (call Tryz.prog (cx [eP62]) 20000 (eP77).1 (eP77).2.1 h0) = true := by kernel_rfl
theorem runP78 : pureOk 1000 (eP78).2.2 (call Tryz.prog (cx [eP62]) 20000 (eP78).1 (eP78).2.1 h0) = true := by kernel_rfl
theorem runP79 : pureOk 1000 (eP79).2.2 (call Tryz.prog (cx [eP62]) 20000 (eP79).1 (eP79).2.1 h0) = true := by kernel_rfl
theorem runP80 : pureOkN 1000 (eP80).2.2 (callAll Tryz.prog (cx [eP36, eP47, eP56, eP59, eP60, eP61, eP63, eP64, eP65, eP66, eP67, eP68, eP69, eP70, eP71, eP72, eP73, eP74, eP75, eP76, eP77, eP78, eP79]) (nkP []) 20000 (eP80).1 (eP80).2.1) = true := by kernel_rfl
theorem runP81 : pureOk 1000 (eP81).2.2 (call Tryz.prog (cx []) 20000 (eP81).1 (eP81).2.1 h0) = true := by kernel_rfl
theorem runP82 : pureOk 1000 (eP82).2.2 (call Tryz.prog (cx [eP81]) 20000 (eP82).1 (eP82).2.1 h0) = true := by kernel_rfl
theorem runP83 : pureOk 1000 (eP83).2.2 (call Tryz.prog (cx []) 20000 (eP83).1 (eP83).2.1 h0) = true := by kernel_rfl
theorem runP84 : pureOk 1000 (eP84).2.2 (call Tryz.prog (cx [eP34, eP53, eP54, eP80, eP82, eP83]) 20000 (eP84).1 (eP84).2.1 h0) = true := by kernel_rfl
theorem runP85 : pureOk 1000 (eP85).2.2 (call Tryz.prog (cx [eP84]) 20000 (eP85).1 (eP85).2.1 h0) = true := by kernel_rfl
theorem runP86 : pureOk 1000 (eP86).2.2 (call Tryz.prog (cx [eP34]) 20000 (eP86).1 (eP86).2.1 h0) = true := by kernel_rfl
theorem runP87 : pureOk 1000 (eP87).2.2 (call Tryz.prog (cx [eP86]) 20000 (eP87).1 (eP87).2.1 h0) = true := by kernel_rfl
theorem runP88 : pureOk 1000 (eP88).2.2 (call Tryz.prog (cx [eP87]) 20000 (eP88).1 (eP88).2.1 h0) = true := by kernel_rfl
theorem runP89 : pureOk 1000 (eP89).2.2 (call Tryz.prog (cx [eP87]) 20000 (eP89).1 (eP89).2.1 h0) = true := by kernel_rfl
theorem runP90 : pureOk 1000 (eP90).2.2 (call Tryz.prog (cx [eP88, eP89]) 20000 (eP90).1 (eP90).2.1 h0) = true := by kernel_rfl
theorem runP91 : pureOk 1000 (eP91).2.2 (call Tryz.prog (cx []) 20000 (eP91).1 (eP91).2.1 h0) = true := by kernel_rfl
theorem runP92 : pureOk 1000 (eP92).2.2 (call Tryz.prog (cx [eP87]) 20000 (eP92).1 (eP92).2.1 h0) = true := by kernel_rfl
theorem runP93 : pureOk 1000 (eP93).2.2 (call Tryz.prog (cx []) 20000 (eP93).1 (eP93).2.1 h0) = true := by kernel_rfl
theorem runP94 : pureOk 1000 (eP94).2.2 (call Tryz.prog (cx [eP86]) 20000 (eP94).1 (eP94).2.1 h0) = true := by kernel_rfl
theorem runP95 : pureOk 1000 (eP95).2.2 (call Tryz.prog (cx [eP94]) 20000 (eP95).1 (eP95).2.1 h0) = true := by kernel_rfl
theorem runP96 : pureOk 1000 (eP96).2.2 (call Tryz.prog (cx [eP94]) 20000 (eP96).1 (eP96).2.1 h0) = true := by kernel_rfl
theorem runP97 : pureOk 1000 (eP97).2.2 (call Tryz.prog (cx [eP95, eP96]) 20000 (eP97).1 (eP97).2.1 h0) = true := by kernel_rfl
theorem runP98 : pureOk 1000 (eP98).2.2 (call Tryz.prog (cx [eP94]) 20000 (eP98).1 (eP98).2.1 h0) = true := by kernel_rfl
end Go.Proofs.YtklbkcldlcnidaaGreatDoor
