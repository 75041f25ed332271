/- SolveNames: calls, as the abstract machine reckons them, part 1. -/
import Derived.Test.YtnpknclpnogagaaGreatDoorWV
namespace Go.Proofs.YtnpknclpnogagaaGreatDoor
open Go.Ax
theorem runW50 : pureOk 1000 (eW50).2.2 (call Tryz.prog (cx [eW49]) 20000 (eW50).1 (eW50).2.1 h0) = true := by kernel_rfl
theorem runW51 : pureOk 1000 (eW51).2.2 (call Tryz.prog (cx [eW50]) 20000 (eW51).1 (eW51).2.1 h0) = true := by kernel_rfl
theorem runW52 : pureOk 1000 (eW52).2.2 (call Tryz.prog (cx [eW51]) 20000 (eW52).1 (eW52).2.1 h0) = true := by kernel_rfl
theorem runW53 : pureOk 1000 (eW53).2.2 (call Tryz.prog (cx [eW51]) 20000 (eW53).1 (eW53).2.1 h0) = true := by kernel_rfl
theorem runW54 : pureOk 1000 (eW54).2.2 (call Tryz.prog (cx [eW52, eW53]) 20000 (eW54).1 (eW54).2.1 h0) = true := by kernel_rfl
theorem runW55 : pureOk 1000 (eW55).2.2 (call Tryz.prog (cx [eW51]) 20000 (eW55).1 (eW55).2.1 h0) = true := by kernel_rfl
theorem runW56 : pureOk 1000 (eW56).2.2 (call Tryz.prog (cx []) 20000 (eW56).1 (eW56).2.1 h0) = true := by kernel_rfl
theorem runW57 : pureOk 1000 (eW57).2.2 (call Tryz.prog (cx []) 20000 (eW57).1 (eW57).2.1 h0) = true := by kernel_rfl
theorem runW58 : pureOk 1000 (eW58).2.2 (call Tryz.prog (cx []) 20000 (eW58).1 (eW58).2.1 h0) = true := by kernel_rfl
theorem runW59 : pureOk 1000 (eW59).2.2 (call Tryz.prog (cx [eW51]) 20000 (eW59).1 (eW59).2.1 h0) = true := by kernel_rfl
theorem runW60 : pureOk 1000 (eW60).2.2 (call Tryz.prog (cx []) 20000 (eW60).1 (eW60).2.1 h0) = true := by kernel_rfl
theorem runW61 : pureOk 1000 (eW61).2.2 (call Tryz.prog (cx []) 20000 (eW61).1 (eW61).2.1 h0) = true := by kernel_rfl
theorem runW62 : pureOk 1000 (eW62).2.2 (call Tryz.prog (cx []) 20000 (eW62).1 (eW62).2.1 h0) = true := by kernel_rfl
theorem runW63 : pureOk 1000 (eW63).2.2 (call Tryz.prog (cx [eW51]) 20000 (eW63).1 (eW63).2.1 h0) = true := by kernel_rfl
theorem runW64 : pureOk 1000 (eW64).2.2 (call Tryz.prog (cx []) 20000 (eW64).1 (eW64).2.1 h0) = true := by kernel_rfl
theorem runW65 : pureOk 1000 (eW65).2.2 (call Tryz.prog (cx []) 20000 (eW65).1 (eW65).2.1 h0) = true := by kernel_rfl
theorem runW66 : pureOk 1000 (eW66).2.2 (call Tryz.prog (cx []) 20000 (eW66).1 (eW66).2.1 h0) = true := by kernel_rfl
theorem runW67 : pureOk 1000 (eW67).2.2 (call Tryz.prog (cx [eW51]) 20000 (eW67).1 (eW67).2.1 h0) = true := by kernel_rfl
theorem runW68 : pureOk 1000 (eW68).2.2 (call Tryz.prog (cx []) 20000 (eW68).1 (eW68).2.1 h0) = true := by kernel_rfl
theorem runW69 : pureOk 1000 (eW69).2.2 (call Tryz.prog (cx [eW50]) 20000 (eW69).1 (eW69).2.1 h0) = true := by kernel_rfl
theorem runW70 : pureOk 1000 (eW70).2.2 (call Tryz.prog (cx [eW69]) 20000 (eW70).1 (eW70).2.1 h0) = true := by kernel_rfl
theorem runW71 : pureOk 1000 (eW71).2.2 (call Tryz.prog (cx [eW69]) 20000 (eW71).1 (eW71).2.1 h0) = true := by kernel_rfl
theorem runW72 : pureOk 1000 (eW72).2.2 (call Tryz.prog (cx [eW70, eW71]) 20000 (eW72).1 (eW72).2.1 h0) = true := by kernel_rfl
theorem runW73 : pureOk 1000 (eW73).2.2 (call Tryz.prog (cx [eW69]) 20000 (eW73).1 (eW73).2.1 h0) = true := by kernel_rfl
theorem runW74 : pureOk 1000 (eW74).2.2 (call Tryz.prog (cx []) 20000 (eW74).1 (eW74).2.1 h0) = true := by kernel_rfl
theorem runW75 : pureOk 1000 (eW75).2.2 (call Tryz.prog (cx []) 20000 (eW75).1 (eW75).2.1 h0) = true := by kernel_rfl
theorem runW76 : pureOk 1000 (eW76).2.2 (call Tryz.prog (cx [eW11, eW14, eW15, eW19, eW36, eW39, eW41, eW46, eW50, eW52, eW54, eW55, eW56, eW57, eW58, eW59, eW60, eW61, eW62, eW63, eW64, eW65, eW66, eW67, eW68, eW70, eW72, eW73, eW74, eW75]) 20000 (eW76).1 (eW76).2.1 h0) = true := by kernel_rfl
theorem runW77 : pureOk 1000 (eW77).2.2 (call Tryz.prog (cx [eW76]) 20000 (eW77).1 (eW77).2.1 h0) = true := by kernel_rfl
theorem runW78 : pureOk 1000 (eW78).2.2 (call Tryz.prog (cx [eW49]) 20000 (eW78).1 (eW78).2.1 h0) = true := by kernel_rfl
theorem runW79 : pureOk 1000 (eW79).2.2 (call Tryz.prog (cx []) 20000 (eW79).1 (eW79).2.1 h0) = true := by kernel_rfl
theorem runW80 : pureOk 1000 (eW80).2.2 (call Tryz.prog (cx [eW78, eW79]) 20000 (eW80).1 (eW80).2.1 h0) = true := by kernel_rfl
theorem runW81 : pureOk 1000 (eW81).2.2 (call Tryz.prog (cx [eW51, eW69, eW77, eW80]) 20000 (eW81).1 (eW81).2.1 h0) = true := by kernel_rfl
theorem runW82 : pureOk 1000 (eW82).2.2 (call Tryz.prog (cx []) 20000 (eW82).1 (eW82).2.1 h0) = true := by kernel_rfl
theorem runW83 : pureOk 1000 (eW83).2.2 (call Tryz.prog (cx [eW51, eW69, eW77, eW80]) 20000 (eW83).1 (eW83).2.1 h0) = true := by kernel_rfl
theorem runW84 : pureOk 1000 (eW84).2.2 (call Tryz.prog (cx []) 20000 (eW84).1 (eW84).2.1 h0) = true := by kernel_rfl
theorem runW85 : pureOk 1000 (eW85).2.2 (call Tryz.prog (cx [eW84]) 20000 (eW85).1 (eW85).2.1 h0) = true := by kernel_rfl
theorem runW86 : pureOk 1000 (eW86).2.2 (call Tryz.prog (cx []) 20000 (eW86).1 (eW86).2.1 h0) = true := by kernel_rfl
theorem runW87 : pureOk 1000 (eW87).2.2 (call Tryz.prog (cx []) 20000 (eW87).1 (eW87).2.1 h0) = true := by kernel_rfl
theorem runW88 : pureOk 1000 (eW88).2.2 (call Tryz.prog (cx []) 20000 (eW88).1 (eW88).2.1 h0) = true := by kernel_rfl
theorem runW89 : pureOk 1000 (eW89).2.2 (call Tryz.prog (cx [eW84]) 20000 (eW89).1 (eW89).2.1 h0) = true := by kernel_rfl
theorem runW90 : pureOk 1000 (eW90).2.2 (call Tryz.prog (cx [eW84]) 20000 (eW90).1 (eW90).2.1 h0) = true := by kernel_rfl
theorem runW91 : pureOk 1000 (eW91).2.2 (call Tryz.prog (cx []) 20000 (eW91).1 (eW91).2.1 h0) = true := by kernel_rfl
theorem runW92 : pureOk 1000 (eW92).2.2 (call Tryz.prog (cx [eW84]) 20000 (eW92).1 (eW92).2.1 h0) = true := by kernel_rfl
theorem runW93 : pureOk 1000 (eW93).2.2 (call Tryz.prog (cx []) 20000 (eW93).1 (eW93).2.1 h0) = true := by kernel_rfl
theorem runW94 : pureOk 1000 (eW94).2.2 (call Tryz.prog (cx []) 20000 (eW94).1 (eW94).2.1 h0) = true := by kernel_rfl
theorem runW95 : pureOk 1000 (eW95).2.2 (call Tryz.prog (cx [eW84]) 20000 (eW95).1 (eW95).2.1 h0) = true := by kernel_rfl
theorem runW96 : pureOk 1000 (eW96).2.2 (call Tryz.prog (cx []) 20000 (eW96).1 (eW96).2.1 h0) = true := by kernel_rfl
theorem runW97 : pureOk 1000 (eW97).2.2 (call Tryz.prog (cx []) 20000 (eW97).1 (eW97).2.1 h0) = true := by kernel_rfl
theorem runW98 : pureOk 1000 (eW98).2.2 (call Tryz.prog (cx [eW84]) 20000 (eW98).1 (eW98).2.1 h0) = true := by kernel_rfl
theorem runW99 : pureOk 1000 (eW99).2.2 (call Tryz.prog (cx [eW84]) 20000 (eW99).1 (eW99).2.1 h0) = true := by kernel_rfl
theorem runW100 : pureOk 1000 (eW100).2.2 (call Tryz.prog (cx [eW86]) 20000 (eW100).1 (eW100).2.1 h0) = true := by kernel_rfl
theorem runW101 : pureOk 1000 (eW101).2.2 (call Tryz.prog (cx []) 20000 (eW101).1 (eW101).2.1 h0) = true := by kernel_rfl
theorem runW102 : pureOk 1000 (eW102).2.2 (call Tryz.prog (cx []) 20000 (eW102).1 (eW102).2.1 h0) = true := by kernel_rfl
theorem runW103 : pureOk 1000 (eW103).2.2 (call Tryz.prog (cx []) 20000 (eW103).1 (eW103).2.1 h0) = true := by kernel_rfl
theorem runW104 : pureOk 1000 (eW104).2.2 (call Tryz.prog (cx []) 20000 (eW104).1 (eW104).2.1 h0) = true := by kernel_rfl
theorem runW105 : pureOk 1000 (eW105).2.2 (call Tryz.prog (cx []) 20000 (eW105).1 (eW105).2.1 h0) = true := by kernel_rfl
theorem runW106 : pureOk 1000 (eW106).2.2 (call Tryz.prog (cx []) 20000 (eW106).1 (eW106).2.1 h0) = true := by kernel_rfl
theorem runW107 : pureOk 1000 (eW107).2.2 (call Tryz.prog (cx []) 20000 (eW107).1 (eW107).2.1 h0) = true := by kernel_rfl
theorem runW108 : pureOk 1000 (eW108).2.2 (call Tryz.prog (cx []) 20000 (eW108).1 (eW108).2.1 h0) = true := by kernel_rfl
theorem runW109 : pureOk 1000 (eW109).2.2 (call Tryz.prog (cx []) 20000 (eW109).1 (eW109).2.1 h0) = true := by kernel_rfl
end Go.Proofs.YtnpknclpnogagaaGreatDoor
