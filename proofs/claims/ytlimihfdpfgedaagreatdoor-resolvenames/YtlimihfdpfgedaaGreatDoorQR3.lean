/- ResolveNames: calls, as the abstract machine reckons them, part 3. -/
import Derived.Test.YtlimihfdpfgedaaGreatDoorQV
namespace Go.Proofs.YtlimihfdpfgedaaGreatDoor
open Go.Ax
theorem runQ73 : pureOk 1000 (eQ73).2.2 (call Tryz.prog (cx [eQ3, eQ6, eQ7, eQ10, eQ11, eQ12, eQ13, eQ14, eQ19, eQ21, eQ30, eQ31, eQ32, eQ33, eQ70, eQ71, eQ72]) 20000 (eQ73).1 (eQ73).2.1 h0) = true := by kernel_rfl
theorem runQ74 : pureOk 1000 (eQ74).2.2 (call Tryz.prog (cx [eQ35]) 20000 (eQ74).1 (eQ74).2.1 h0) = true := by kernel_rfl
theorem runQ75 : pureOk 1000 (eQ75).2.2 (call Tryz.prog (cx [eQ74]) 20000 (eQ75).1 (eQ75).2.1 h0) = true := by kernel_rfl
theorem runQ76 : pureOk 1000 (eQ76).2.2 (call Tryz.prog (cx [eQ75]) 20000 (eQ76).1 (eQ76).2.1 h0) = true := by kernel_rfl
theorem runQ77 : pureOk 1000 (eQ77).2.2 (call Tryz.prog (cx [eQ75]) 20000 (eQ77).1 (eQ77).2.1 h0) = true := by kernel_rfl
theorem runQ78 : pureOk 1000 (eQ78).2.2 (call Tryz.prog (cx [eQ76, eQ77]) 20000 (eQ78).1 (eQ78).2.1 h0) = true := by kernel_rfl
theorem runQ79 : pureOk 1000 (eQ79).2.2 (call Tryz.prog (cx [eQ75]) 20000 (eQ79).1 (eQ79).2.1 h0) = true := by kernel_rfl
theorem runQ80 : pureOk 1000 (eQ80).2.2 (call Tryz.prog (cx []) 20000 (eQ80).1 (eQ80).2.1 h0) = true := by kernel_rfl
theorem runQ81 : pureOk 1000 (eQ81).2.2 (call Tryz.prog (cx []) 20000 (eQ81).1 (eQ81).2.1 h0) = true := by kernel_rfl
theorem runQ82 : pureOk 1000 (eQ82).2.2 (call Tryz.prog (cx []) 20000 (eQ82).1 (eQ82).2.1 h0) = true := by kernel_rfl
theorem runQ83 : pureOk 1000 (eQ83).2.2 (call Tryz.prog (cx [eQ74]) 20000 (eQ83).1 (eQ83).2.1 h0) = true := by kernel_rfl
theorem runQ84 : pureOk 1000 (eQ84).2.2 (call Tryz.prog (cx [eQ83]) 20000 (eQ84).1 (eQ84).2.1 h0) = true := by kernel_rfl
theorem runQ85 : pureOk 1000 (eQ85).2.2 (call Tryz.prog (cx [eQ83]) 20000 (eQ85).1 (eQ85).2.1 h0) = true := by kernel_rfl
theorem runQ86 : pureOk 1000 (eQ86).2.2 (call Tryz.prog (cx [eQ84, eQ85]) 20000 (eQ86).1 (eQ86).2.1 h0) = true := by kernel_rfl
theorem runQ87 : pureOk 1000 (eQ87).2.2 (call Tryz.prog (cx [eQ83]) 20000 (eQ87).1 (eQ87).2.1 h0) = true := by kernel_rfl
theorem runQ88 : pureOk 1000 (eQ88).2.2 (call Tryz.prog (cx [eQ74]) 20000 (eQ88).1 (eQ88).2.1 h0) = true := by kernel_rfl
theorem runQ89 : pureOk 1000 (eQ89).2.2 (call Tryz.prog (cx [eQ88]) 20000 (eQ89).1 (eQ89).2.1 h0) = true := by kernel_rfl
theorem runQ90 : pureOk 1000 (eQ90).2.2 (call Tryz.prog (cx [eQ88]) 20000 (eQ90).1 (eQ90).2.1 h0) = true := by kernel_rfl
theorem runQ91 : pureOk 1000 (eQ91).2.2 (call Tryz.prog (cx [eQ89, eQ90]) 20000 (eQ91).1 (eQ91).2.1 h0) = true := by kernel_rfl
theorem runQ92 : pureOk 1000 (eQ92).2.2 (call Tryz.prog (cx [eQ88]) 20000 (eQ92).1 (eQ92).2.1 h0) = true := by kernel_rfl
theorem runQ93 : pureOk 1000 (eQ93).2.2 (call Tryz.prog (cx [eQ11, eQ30, eQ32, eQ33, eQ42, eQ57, eQ63, eQ71, eQ74, eQ76, eQ78, eQ79, eQ80, eQ81, eQ82, eQ84, eQ86, eQ87, eQ89, eQ91, eQ92]) 20000 (eQ93).1 (eQ93).2.1 h0) = true := by kernel_rfl
theorem runQ94 : pureOk 1000 (eQ94).2.2 (call Tryz.prog (cx []) 20000 (eQ94).1 (eQ94).2.1 h0) = true := by kernel_rfl
theorem runQ95 : pureOk 1000 (eQ95).2.2 (call Tryz.prog (cx [eQ93]) 20000 (eQ95).1 (eQ95).2.1 h0) = true := by kernel_rfl
theorem runQ96 : pureOk 1000 (eQ96).2.2 (call Tryz.prog (cx []) 20000 (eQ96).1 (eQ96).2.1 h0) = true := by kernel_rfl
theorem runQ97 : pureOk 1000 (eQ97).2.2 (call Tryz.prog (cx [eQ75, eQ83, eQ88, eQ95]) 20000 (eQ97).1 (eQ97).2.1 h0) = true := by kernel_rfl
theorem runQ98 : pureOk 1000 (eQ98).2.2 (call Tryz.prog (cx []) 20000 (eQ98).1 (eQ98).2.1 h0) = true := by kernel_rfl
theorem runQ99 : pureOk 1000 (eQ99).2.2 (call Tryz.prog (cx [eQ98]) 20000 (eQ99).1 (eQ99).2.1 h0) = true := by kernel_rfl
theorem runQ100 : pureOk 1000 (eQ100).2.2 (call Tryz.prog (cx []) 20000 (eQ100).1 (eQ100).2.1 h0) = true := by kernel_rfl
theorem runQ101 : pureOk 1000 (eQ101).2.2 (call Tryz.prog (cx []) 20000 (eQ101).1 (eQ101).2.1 h0) = true := by kernel_rfl
theorem runQ102 : pureOk 1000 (eQ102).2.2 (call Tryz.prog (cx []) 20000 (eQ102).1 (eQ102).2.1 h0) = true := by kernel_rfl
theorem runQ103 : pureOk 1000 (eQ103).2.2 (call Tryz.prog (cx [eQ98]) 20000 (eQ103).1 (eQ103).2.1 h0) = true := by kernel_rfl
theorem runQ104 : pureOk 1000 (eQ104).2.2 (call Tryz.prog (cx [eQ98]) 20000 (eQ104).1 (eQ104).2.1 h0) = true := by kernel_rfl
theorem runQ105 : pureOk 1000 (eQ105).2.2 (call Tryz.prog (cx [eQ100]) 20000 (eQ105).1 (eQ105).2.1 h0) = true := by kernel_rfl
theorem runQ106 : pureOk 1000 (eQ106).2.2 (call Tryz.prog (cx [eQ98]) 20000 (eQ106).1 (eQ106).2.1 h0) = true := by kernel_rfl
theorem runQ107 : pureOk 1000 (eQ107).2.2 (call Tryz.prog (cx [eQ98]) 20000 (eQ107).1 (eQ107).2.1 h0) = true := by kernel_rfl
theorem runQ108 : pureOk 1000 (eQ108).2.2 (call Tryz.prog (cx [eQ98]) 20000 (eQ108).1 (eQ108).2.1 h0) = true := by kernel_rfl
theorem runQ109 : pureOk 1000 (eQ109).2.2 (call Tryz.prog (cx [eQ98]) 20000 (eQ109).1 (eQ109).2.1 h0) = true := by kernel_rfl
theorem runQ110 : pureOk 1000 (eQ110).2.2 (call Tryz.prog (cx [eQ98]) 20000 (eQ110).1 (eQ110).2.1 h0) = true := by kernel_rfl
theorem runQ111 : pureOk 1000 (eQ111).2.2 (call Tryz.prog (cx [eQ98]) 20000 (eQ111).1 (eQ111).2.1 h0) = true := by kernel_rfl
end Go.Proofs.YtlimihfdpfgedaaGreatDoor
