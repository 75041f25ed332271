/- LoopNames: the law's own run, and that all told calls are right. -/
import Derived.Test.YtifgafdcadffiaaGreatDoorLR0
import Derived.Test.YtifgafdcadffiaaGreatDoorLR1
import Derived.Test.YtifgafdcadffiaaGreatDoorLR2
import Derived.Test.YtifgafdcadffiaaGreatDoorLR3
import Derived.Test.YtifgafdcadffiaaGreatDoorLR4
import Derived.Test.YtifgafdcadffiaaGreatDoorLR5
import Derived.Test.YtifgafdcadffiaaGreatDoorLR6
import Derived.Test.YtifgafdcadffiaaGreatDoorLR7
import Derived.Test.YtifgafdcadffiaaGreatDoorLR8
import Derived.Test.YtifgafdcadffiaaGreatDoorLR9
import Derived.Test.YtifgafdcadffiaaGreatDoorLR10
import Derived.Test.YtifgafdcadffiaaGreatDoorLR11
namespace Go.Proofs.YtifgafdcadffiaaGreatDoor
open Go.Ax
theorem runL : okTrue (call Tryz.prog (cx [eL48, eL173, eL174, eL175, eL180, eL181, eL186, eL187, eL188, eL189, eL190]) 20000 4 [] h0) = true := by kernel_rfl
section
variable {W : World} (h : laidMetH Tryz.prog laidR W)
include h
theorem isL0 : PureC Tryz.prog (Go.Ax.frozen W) (eL0).1 (eL0).2.1 (eL0).2.2 := pure_of_run (pok h (T := []) (.nil)) (by kernel_rfl) runL0
theorem isL1 : PureC Tryz.prog (Go.Ax.frozen W) (eL1).1 (eL1).2.1 (eL1).2.2 := pure_of_run (pok h (T := []) (.nil)) (by kernel_rfl) runL1
theorem isL2 : PureC Tryz.prog (Go.Ax.frozen W) (eL2).1 (eL2).2.1 (eL2).2.2 := pure_of_run (pok h (T := [eL1]) (.cons (isL1 h) (.nil))) (by kernel_rfl) runL2
theorem isL3 : PureC Tryz.prog (Go.Ax.frozen W) (eL3).1 (eL3).2.1 (eL3).2.2 := pure_of_run (pok h (T := [eL2]) (.cons (isL2 h) (.nil))) (by kernel_rfl) runL3
theorem isL4 : PureC Tryz.prog (Go.Ax.frozen W) (eL4).1 (eL4).2.1 (eL4).2.2 := pure_of_run (pok h (T := []) (.nil)) (by kernel_rfl) runL4
theorem isL5 : PureC Tryz.prog (Go.Ax.frozen W) (eL5).1 (eL5).2.1 (eL5).2.2 := pure_of_run (pok h (T := [eL4]) (.cons (isL4 h) (.nil))) (by kernel_rfl) runL5
theorem isL6 : PureC Tryz.prog (Go.Ax.frozen W) (eL6).1 (eL6).2.1 (eL6).2.2 := pure_of_run (pok h (T := [eL5]) (.cons (isL5 h) (.nil))) (by kernel_rfl) runL6
theorem isL7 : PureC Tryz.prog (Go.Ax.frozen W) (eL7).1 (eL7).2.1 (eL7).2.2 := pure_of_run (pok h (T := [eL2]) (.cons (isL2 h) (.nil))) (by kernel_rfl) runL7
theorem isL8 : PureC Tryz.prog (Go.Ax.frozen W) (eL8).1 (eL8).2.1 (eL8).2.2 := pure_of_run (pok h (T := []) (.nil)) (by kernel_rfl) runL8
theorem isL9 : PureC Tryz.prog (Go.Ax.frozen W) (eL9).1 (eL9).2.1 (eL9).2.2 := pure_of_run (pok h (T := [eL8]) (.cons (isL8 h) (.nil))) (by kernel_rfl) runL9
theorem isL10 : PureC Tryz.prog (Go.Ax.frozen W) (eL10).1 (eL10).2.1 (eL10).2.2 := pure_of_run (pok h (T := [eL9]) (.cons (isL9 h) (.nil))) (by kernel_rfl) runL10
theorem isL11 : PureC Tryz.prog (Go.Ax.frozen W) (eL11).1 (eL11).2.1 (eL11).2.2 := pure_of_run (pok h (T := []) (.nil)) (by kernel_rfl) runL11
theorem isL12 : PureC Tryz.prog (Go.Ax.frozen W) (eL12).1 (eL12).2.1 (eL12).2.2 := pure_of_run (pok h (T := []) (.nil)) (by kernel_rfl) runL12
theorem isL13 : PureC Tryz.prog (Go.Ax.frozen W) (eL13).1 (eL13).2.1 (eL13).2.2 := pure_of_run (pok h (T := [eL9]) (.cons (isL9 h) (.nil))) (by kernel_rfl) runL13
theorem isL14 : PureC Tryz.prog (Go.Ax.frozen W) (eL14).1 (eL14).2.1 (eL14).2.2 := pure_of_run (pok h (T := []) (.nil)) (by kernel_rfl) runL14
theorem isL15 : PureC Tryz.prog (Go.Ax.frozen W) (eL15).1 (eL15).2.1 (eL15).2.2 := pure_of_run (pok h (T := []) (.nil)) (by kernel_rfl) runL15
theorem isL16 : PureC Tryz.prog (Go.Ax.frozen W) (eL16).1 (eL16).2.1 (eL16).2.2 := pure_of_run (pok h (T := []) (.nil)) (by kernel_rfl) runL16
theorem isL17 : PureC Tryz.prog (Go.Ax.frozen W) (eL17).1 (eL17).2.1 (eL17).2.2 := pure_of_run (pok h (T := [eL9]) (.cons (isL9 h) (.nil))) (by kernel_rfl) runL17
theorem isL18 : PureC Tryz.prog (Go.Ax.frozen W) (eL18).1 (eL18).2.1 (eL18).2.2 := pure_of_run (pok h (T := [eL5]) (.cons (isL5 h) (.nil))) (by kernel_rfl) runL18
theorem isL19 : PureC Tryz.prog (Go.Ax.frozen W) (eL19).1 (eL19).2.1 (eL19).2.2 := pure_of_run (pok h (T := []) (.nil)) (by kernel_rfl) runL19
theorem isL20 : PureC Tryz.prog (Go.Ax.frozen W) (eL20).1 (eL20).2.1 (eL20).2.2 := pure_of_run (pok h (T := []) (.nil)) (by kernel_rfl) runL20
theorem isL21 : PureC Tryz.prog (Go.Ax.frozen W) (eL21).1 (eL21).2.1 (eL21).2.2 := pure_of_run (pok h (T := [eL2]) (.cons (isL2 h) (.nil))) (by kernel_rfl) runL21
theorem isL22 : PureC Tryz.prog (Go.Ax.frozen W) (eL22).1 (eL22).2.1 (eL22).2.2 := pure_of_run (pok h (T := [eL5]) (.cons (isL5 h) (.nil))) (by kernel_rfl) runL22
theorem isL23 : PureC Tryz.prog (Go.Ax.frozen W) (eL23).1 (eL23).2.1 (eL23).2.2 := pure_of_run (pok h (T := []) (.nil)) (by kernel_rfl) runL23
theorem isL24 : PureC Tryz.prog (Go.Ax.frozen W) (eL24).1 (eL24).2.1 (eL24).2.2 := pure_of_run (pok h (T := [eL23]) (.cons (isL23 h) (.nil))) (by kernel_rfl) runL24
theorem isL25 : PureC Tryz.prog (Go.Ax.frozen W) (eL25).1 (eL25).2.1 (eL25).2.2 := pure_of_run (pok h (T := [eL24]) (.cons (isL24 h) (.nil))) (by kernel_rfl) runL25
theorem isL26 : PureC Tryz.prog (Go.Ax.frozen W) (eL26).1 (eL26).2.1 (eL26).2.2 := pure_of_run (pok h (T := [eL16]) (.cons (isL16 h) (.nil))) (by kernel_rfl) runL26
theorem isL27 : PureC Tryz.prog (Go.Ax.frozen W) (eL27).1 (eL27).2.1 (eL27).2.2 := pure_of_run (pok h (T := [eL26]) (.cons (isL26 h) (.nil))) (by kernel_rfl) runL27
theorem isL28 : PureC Tryz.prog (Go.Ax.frozen W) (eL28).1 (eL28).2.1 (eL28).2.2 := pure_of_run (pok h (T := []) (.nil)) (by kernel_rfl) runL28
theorem isL29 : PureC Tryz.prog (Go.Ax.frozen W) (eL29).1 (eL29).2.1 (eL29).2.2 := pure_of_run (pok h (T := [eL28]) (.cons (isL28 h) (.nil))) (by kernel_rfl) runL29
theorem isL30 : PureC Tryz.prog (Go.Ax.frozen W) (eL30).1 (eL30).2.1 (eL30).2.2 := pure_of_run (pok h (T := [eL29]) (.cons (isL29 h) (.nil))) (by kernel_rfl) runL30
theorem isL31 : PureC Tryz.prog (Go.Ax.frozen W) (eL31).1 (eL31).2.1 (eL31).2.2 := pure_of_run (pok h (T := [eL26]) (.cons (isL26 h) (.nil))) (by kernel_rfl) runL31
theorem isL32 : PureC Tryz.prog (Go.Ax.frozen W) (eL32).1 (eL32).2.1 (eL32).2.2 := pure_of_run (pok h (T := []) (.nil)) (by kernel_rfl) runL32
theorem isL33 : PureC Tryz.prog (Go.Ax.frozen W) (eL33).1 (eL33).2.1 (eL33).2.2 := pure_of_run (pok h (T := [eL32]) (.cons (isL32 h) (.nil))) (by kernel_rfl) runL33
theorem isL34 : PureC Tryz.prog (Go.Ax.frozen W) (eL34).1 (eL34).2.1 (eL34).2.2 := pure_of_run (pok h (T := [eL33]) (.cons (isL33 h) (.nil))) (by kernel_rfl) runL34
theorem isL35 : PureC Tryz.prog (Go.Ax.frozen W) (eL35).1 (eL35).2.1 (eL35).2.2 := pure_of_run (pok h (T := []) (.nil)) (by kernel_rfl) runL35
theorem isL36 : PureC Tryz.prog (Go.Ax.frozen W) (eL36).1 (eL36).2.1 (eL36).2.2 := pure_of_run (pok h (T := [eL35]) (.cons (isL35 h) (.nil))) (by kernel_rfl) runL36
theorem isL37 : PureC Tryz.prog (Go.Ax.frozen W) (eL37).1 (eL37).2.1 (eL37).2.2 := pure_of_run (pok h (T := [eL36]) (.cons (isL36 h) (.nil))) (by kernel_rfl) runL37
theorem isL38 : PureC Tryz.prog (Go.Ax.frozen W) (eL38).1 (eL38).2.1 (eL38).2.2 := pure_of_run (pok h (T := []) (.nil)) (by kernel_rfl) runL38
theorem isL39 : PureC Tryz.prog (Go.Ax.frozen W) (eL39).1 (eL39).2.1 (eL39).2.2 := pure_of_run (pok h (T := []) (.nil)) (by kernel_rfl) runL39
theorem isL40 : PureC Tryz.prog (Go.Ax.frozen W) (eL40).1 (eL40).2.1 (eL40).2.2 := pure_of_run (pok h (T := []) (.nil)) (by kernel_rfl) runL40
theorem isL41 : PureC Tryz.prog (Go.Ax.frozen W) (eL41).1 (eL41).2.1 (eL41).2.2 := pure_of_run (pok h (T := []) (.nil)) (by kernel_rfl) runL41
theorem isL42 : PureC Tryz.prog (Go.Ax.frozen W) (eL42).1 (eL42).2.1 (eL42).2.2 := pure_of_run (pok h (T := []) (.nil)) (by kernel_rfl) runL42
theorem isL43 : PureC Tryz.prog (Go.Ax.frozen W) (eL43).1 (eL43).2.1 (eL43).2.2 := pure_of_run (pok h (T := [eL42]) (.cons (isL42 h) (.nil))) (by kernel_rfl) runL43
theorem isL44 : PureC Tryz.prog (Go.Ax.frozen W) (eL44).1 (eL44).2.1 (eL44).2.2 := pure_of_run (pok h (T := [eL43]) (.cons (isL43 h) (.nil))) (by kernel_rfl) runL44
theorem isL45 : PureC Tryz.prog (Go.Ax.frozen W) (eL45).1 (eL45).2.1 (eL45).2.2 := pure_of_run (pok h (T := []) (.nil)) (by kernel_rfl) runL45
theorem isL46 : PureC Tryz.prog (Go.Ax.frozen W) (eL46).1 (eL46).2.1 (eL46).2.2 := pure_of_run (pok h (T := [eL45]) (.cons (isL45 h) (.nil))) (by kernel_rfl) runL46
theorem isL47 : PureC Tryz.prog (Go.Ax.frozen W) (eL47).1 (eL47).2.1 (eL47).2.2 := pure_of_run (pok h (T := [eL46]) (.cons (isL46 h) (.nil))) (by kernel_rfl) runL47
theorem isL48 : PureC Tryz.prog (Go.Ax.frozen W) (eL48).1 (eL48).2.1 (eL48).2.2 := pure_of_run (pok h (T := [eL0, eL1, eL3, eL6, eL7, eL10, eL11, eL12, eL13, eL14, eL15, eL16, eL17, eL18, eL19, eL20, eL21, eL22, eL25, eL27, eL30, eL31, eL34, eL37, eL38, eL39, eL40, eL41, eL44, eL47]) (.cons (isL0 h) (.cons (isL1 h) (.cons (isL3 h) (.cons (isL6 h) (.cons (isL7 h) (.cons (isL10 h) (.cons (isL11 h) (.cons (isL12 h) (.cons (isL13 h) (.cons (isL14 h) (.cons (isL15 h) (.cons (isL16 h) (.cons (isL17 h) (.cons (isL18 h) (.cons (isL19 h) (.cons (isL20 h) (.cons (isL21 h) (.cons (isL22 h) (.cons (isL25 h) (.cons (isL27 h) (.cons (isL30 h) (.cons (isL31 h) (.cons (isL34 h) (.cons (isL37 h) (.cons (isL38 h) (.cons (isL39 h) (.cons (isL40 h) (.cons (isL41 h) (.cons (isL44 h) (.cons (isL47 h) (.nil)))))))))))))))))))))))))))))))) (by kernel_rfl) runL48
theorem isL49 : PureC Tryz.prog (Go.Ax.frozen W) (eL49).1 (eL49).2.1 (eL49).2.2 := pure_of_run (pok h (T := []) (.nil)) (by kernel_rfl) runL49
theorem isL50 : PureC Tryz.prog (Go.Ax.frozen W) (eL50).1 (eL50).2.1 (eL50).2.2 := pure_of_run (pok h (T := [eL49]) (.cons (isL49 h) (.nil))) (by kernel_rfl) runL50
theorem isL51 : PureC Tryz.prog (Go.Ax.frozen W) (eL51).1 (eL51).2.1 (eL51).2.2 := pure_of_run (pok h (T := [eL50]) (.cons (isL50 h) (.nil))) (by kernel_rfl) runL51
theorem isL52 : PureC Tryz.prog (Go.Ax.frozen W) (eL52).1 (eL52).2.1 (eL52).2.2 := pure_of_run (pok h (T := [eL51]) (.cons (isL51 h) (.nil))) (by kernel_rfl) runL52
theorem isL53 : PureC Tryz.prog (Go.Ax.frozen W) (eL53).1 (eL53).2.1 (eL53).2.2 := pure_of_run (pok h (T := [eL51]) (.cons (isL51 h) (.nil))) (by kernel_rfl) runL53
theorem isL54 : PureC Tryz.prog (Go.Ax.frozen W) (eL54).1 (eL54).2.1 (eL54).2.2 := pure_of_run (pok h (T := [eL52, eL53]) (.cons (isL52 h) (.cons (isL53 h) (.nil)))) (by kernel_rfl) runL54
theorem isL55 : PureC Tryz.prog (Go.Ax.frozen W) (eL55).1 (eL55).2.1 (eL55).2.2 := pure_of_run (pok h (T := [eL51]) (.cons (isL51 h) (.nil))) (by kernel_rfl) runL55
theorem isL56 : PureC Tryz.prog (Go.Ax.frozen W) (eL56).1 (eL56).2.1 (eL56).2.2 := pure_of_run (pok h (T := []) (.nil)) (by kernel_rfl) runL56
theorem isL57 : PureC Tryz.prog (Go.Ax.frozen W) (eL57).1 (eL57).2.1 (eL57).2.2 := pure_of_run (pok h (T := []) (.nil)) (by kernel_rfl) runL57
theorem isL58 : PureC Tryz.prog (Go.Ax.frozen W) (eL58).1 (eL58).2.1 (eL58).2.2 := pure_of_run (pok h (T := []) (.nil)) (by kernel_rfl) runL58
theorem isL59 : PureC Tryz.prog (Go.Ax.frozen W) (eL59).1 (eL59).2.1 (eL59).2.2 := pure_of_run (pok h (T := [eL51]) (.cons (isL51 h) (.nil))) (by kernel_rfl) runL59
theorem isL60 : PureC Tryz.prog (Go.Ax.frozen W) (eL60).1 (eL60).2.1 (eL60).2.2 := pure_of_run (pok h (T := []) (.nil)) (by kernel_rfl) runL60
theorem isL61 : PureC Tryz.prog (Go.Ax.frozen W) (eL61).1 (eL61).2.1 (eL61).2.2 := pure_of_run (pok h (T := []) (.nil)) (by kernel_rfl) runL61
theorem isL62 : PureC Tryz.prog (Go.Ax.frozen W) (eL62).1 (eL62).2.1 (eL62).2.2 := pure_of_run (pok h (T := []) (.nil)) (by kernel_rfl) runL62
theorem isL63 : PureC Tryz.prog (Go.Ax.frozen W) (eL63).1 (eL63).2.1 (eL63).2.2 := pure_of_run (pok h (T := [eL51]) (.cons (isL51 h) (.nil))) (by kernel_rfl) runL63
theorem isL64 : PureC Tryz.prog (Go.Ax.frozen W) (eL64).1 (eL64).2.1 (eL64).2.2 := pure_of_run (pok h (T := []) (.nil)) (by kernel_rfl) runL64
theorem isL65 : PureC Tryz.prog (Go.Ax.frozen W) (eL65).1 (eL65).2.1 (eL65).2.2 := pure_of_run (pok h (T := []) (.nil)) (by kernel_rfl) runL65
theorem isL66 : PureC Tryz.prog (Go.Ax.frozen W) (eL66).1 (eL66).2.1 (eL66).2.2 := pure_of_run (pok h (T := []) (.nil)) (by kernel_rfl) runL66
theorem isL67 : PureC Tryz.prog (Go.Ax.frozen W) (eL67).1 (eL67).2.1 (eL67).2.2 := pure_of_run (pok h (T := [eL51]) (.cons (isL51 h) (.nil))) (by kernel_rfl) runL67
theorem isL68 : PureC Tryz.prog (Go.Ax.frozen W) (eL68).1 (eL68).2.1 (eL68).2.2 := pure_of_run (pok h (T := []) (.nil)) (by kernel_rfl) runL68
theorem isL69 : PureC Tryz.prog (Go.Ax.frozen W) (eL69).1 (eL69).2.1 (eL69).2.2 := pure_of_run (pok h (T := [eL11, eL14, eL15, eL19, eL38, eL40, eL50, eL52, eL54, eL55, eL56, eL57, eL58, eL59, eL60, eL61, eL62, eL63, eL64, eL65, eL66, eL67, eL68]) (.cons (isL11 h) (.cons (isL14 h) (.cons (isL15 h) (.cons (isL19 h) (.cons (isL38 h) (.cons (isL40 h) (.cons (isL50 h) (.cons (isL52 h) (.cons (isL54 h) (.cons (isL55 h) (.cons (isL56 h) (.cons (isL57 h) (.cons (isL58 h) (.cons (isL59 h) (.cons (isL60 h) (.cons (isL61 h) (.cons (isL62 h) (.cons (isL63 h) (.cons (isL64 h) (.cons (isL65 h) (.cons (isL66 h) (.cons (isL67 h) (.cons (isL68 h) (.nil))))))))))))))))))))))))) (by kernel_rfl) runL69
theorem isL70 : PureC Tryz.prog (Go.Ax.frozen W) (eL70).1 (eL70).2.1 (eL70).2.2 := pure_of_run (pok h (T := [eL69]) (.cons (isL69 h) (.nil))) (by kernel_rfl) runL70
theorem isL71 : PureC Tryz.prog (Go.Ax.frozen W) (eL71).1 (eL71).2.1 (eL71).2.2 := pure_of_run (pok h (T := [eL49]) (.cons (isL49 h) (.nil))) (by kernel_rfl) runL71
theorem isL72 : PureC Tryz.prog (Go.Ax.frozen W) (eL72).1 (eL72).2.1 (eL72).2.2 := pure_of_run (pok h (T := []) (.nil)) (by kernel_rfl) runL72
theorem isL73 : PureC Tryz.prog (Go.Ax.frozen W) (eL73).1 (eL73).2.1 (eL73).2.2 := pure_of_run (pok h (T := [eL71, eL72]) (.cons (isL71 h) (.cons (isL72 h) (.nil)))) (by kernel_rfl) runL73
theorem isL74 : PureC Tryz.prog (Go.Ax.frozen W) (eL74).1 (eL74).2.1 (eL74).2.2 := pure_of_run (pok h (T := []) (.nil)) (by kernel_rfl) runL74
theorem isL75 : PureC Tryz.prog (Go.Ax.frozen W) (eL75).1 (eL75).2.1 (eL75).2.2 := pure_of_run (pok h (T := [eL51, eL70, eL73]) (.cons (isL51 h) (.cons (isL70 h) (.cons (isL73 h) (.nil))))) (by kernel_rfl) runL75
theorem isL76 : PureC Tryz.prog (Go.Ax.frozen W) (eL76).1 (eL76).2.1 (eL76).2.2 := pure_of_run (pok h (T := []) (.nil)) (by kernel_rfl) runL76
theorem isL77 : PureC Tryz.prog (Go.Ax.frozen W) (eL77).1 (eL77).2.1 (eL77).2.2 := pure_of_run (pok h (T := [eL76]) (.cons (isL76 h) (.nil))) (by kernel_rfl) runL77
theorem isL78 : PureC Tryz.prog (Go.Ax.frozen W) (eL78).1 (eL78).2.1 (eL78).2.2 := pure_of_run (pok h (T := []) (.nil)) (by kernel_rfl) runL78
theorem isL79 : PureC Tryz.prog (Go.Ax.frozen W) (eL79).1 (eL79).2.1 (eL79).2.2 := pure_of_run (pok h (T := []) (.nil)) (by kernel_rfl) runL79
theorem isL80 : PureC Tryz.prog (Go.Ax.frozen W) (eL80).1 (eL80).2.1 (eL80).2.2 := pure_of_run (pok h (T := []) (.nil)) (by kernel_rfl) runL80
theorem isL81 : PureC Tryz.prog (Go.Ax.frozen W) (eL81).1 (eL81).2.1 (eL81).2.2 := pure_of_run (pok h (T := [eL76]) (.cons (isL76 h) (.nil))) (by kernel_rfl) runL81
theorem isL82 : PureC Tryz.prog (Go.Ax.frozen W) (eL82).1 (eL82).2.1 (eL82).2.2 := pure_of_run (pok h (T := [eL76]) (.cons (isL76 h) (.nil))) (by kernel_rfl) runL82
theorem isL83 : PureC Tryz.prog (Go.Ax.frozen W) (eL83).1 (eL83).2.1 (eL83).2.2 := pure_of_run (pok h (T := []) (.nil)) (by kernel_rfl) runL83
theorem isL84 : PureC Tryz.prog (Go.Ax.frozen W) (eL84).1 (eL84).2.1 (eL84).2.2 := pure_of_run (pok h (T := [eL76]) (.cons (isL76 h) (.nil))) (by kernel_rfl) runL84
theorem isL85 : PureC Tryz.prog (Go.Ax.frozen W) (eL85).1 (eL85).2.1 (eL85).2.2 := pure_of_run (pok h (T := []) (.nil)) (by kernel_rfl) runL85
theorem isL86 : PureC Tryz.prog (Go.Ax.frozen W) (eL86).1 (eL86).2.1 (eL86).2.2 := pure_of_run (pok h (T := []) (.nil)) (by kernel_rfl) runL86
theorem isL87 : PureC Tryz.prog (Go.Ax.frozen W) (eL87).1 (eL87).2.1 (eL87).2.2 := pure_of_run (pok h (T := []) (.nil)) (by kernel_rfl) runL87
theorem isL88 : PureC Tryz.prog (Go.Ax.frozen W) (eL88).1 (eL88).2.1 (eL88).2.2 := pure_of_run (pok h (T := []) (.nil)) (by kernel_rfl) runL88
theorem isL89 : PureC Tryz.prog (Go.Ax.frozen W) (eL89).1 (eL89).2.1 (eL89).2.2 := pure_of_run (pok h (T := []) (.nil)) (by kernel_rfl) runL89
theorem isL90 : PureC Tryz.prog (Go.Ax.frozen W) (eL90).1 (eL90).2.1 (eL90).2.2 := pure_of_run (pok h (T := []) (.nil)) (by kernel_rfl) runL90
theorem isL91 : PureC Tryz.prog (Go.Ax.frozen W) (eL91).1 (eL91).2.1 (eL91).2.2 := pure_of_run (pok h (T := []) (.nil)) (by kernel_rfl) runL91
theorem isL92 : PureC Tryz.prog (Go.Ax.frozen W) (eL92).1 (eL92).2.1 (eL92).2.2 := pure_of_run (pok h (T := [eL76]) (.cons (isL76 h) (.nil))) (by kernel_rfl) runL92
theorem isL93 : PureC Tryz.prog (Go.Ax.frozen W) (eL93).1 (eL93).2.1 (eL93).2.2 := pure_of_run (pok h (T := [eL76]) (.cons (isL76 h) (.nil))) (by kernel_rfl) runL93
theorem isL94 : PureC Tryz.prog (Go.Ax.frozen W) (eL94).1 (eL94).2.1 (eL94).2.2 := pure_of_run (pok h (T := [eL76]) (.cons (isL76 h) (.nil))) (by kernel_rfl) runL94
theorem isL95 : PureC Tryz.prog (Go.Ax.frozen W) (eL95).1 (eL95).2.1 (eL95).2.2 := pure_of_run (pok h (T := [eL76]) (.cons (isL76 h) (.nil))) (by kernel_rfl) runL95
theorem isL96 : PureC Tryz.prog (Go.Ax.frozen W) (eL96).1 (eL96).2.1 (eL96).2.2 := pure_of_run (pok h (T := [eL76]) (.cons (isL76 h) (.nil))) (by kernel_rfl) runL96
theorem isL97 : PureC Tryz.prog (Go.Ax.frozen W) (eL97).1 (eL97).2.1 (eL97).2.2 := pure_of_run (pok h (T := [eL76]) (.cons (isL76 h) (.nil))) (by kernel_rfl) runL97
theorem isL98 : PureC Tryz.prog (Go.Ax.frozen W) (eL98).1 (eL98).2.1 (eL98).2.2 := pure_of_run (pok h (T := [eL76]) (.cons (isL76 h) (.nil))) (by kernel_rfl) runL98
theorem isL99 : PureC Tryz.prog (Go.Ax.frozen W) (eL99).1 (eL99).2.1 (eL99).2.2 := pure_of_run (pok h (T := [eL76]) (.cons (isL76 h) (.nil))) (by kernel_rfl) runL99
theorem isL100 : PureC Tryz.prog (Go.Ax.frozen W) (eL100).1 (eL100).2.1 (eL100).2.2 := pure_of_run (pok h (T := [eL76]) (.cons (isL76 h) (.nil))) (by kernel_rfl) runL100
theorem isL101 : PureC Tryz.prog (Go.Ax.frozen W) (eL101).1 (eL101).2.1 (eL101).2.2 := pure_of_run (pok h (T := [eL76]) (.cons (isL76 h) (.nil))) (by kernel_rfl) runL101
theorem isL102 : PureC Tryz.prog (Go.Ax.frozen W) (eL102).1 (eL102).2.1 (eL102).2.2 := pure_of_all (pok h (T := [eL51, eL70, eL73, eL74, eL75, eL77, eL78, eL79, eL80, eL81, eL82, eL83, eL84, eL85, eL86, eL87, eL88, eL89, eL90, eL91, eL92, eL93, eL94, eL95, eL96, eL97, eL98, eL99, eL100, eL101]) (.cons (isL51 h) (.cons (isL70 h) (.cons (isL73 h) (.cons (isL74 h) (.cons (isL75 h) (.cons (isL77 h) (.cons (isL78 h) (.cons (isL79 h) (.cons (isL80 h) (.cons (isL81 h) (.cons (isL82 h) (.cons (isL83 h) (.cons (isL84 h) (.cons (isL85 h) (.cons (isL86 h) (.cons (isL87 h) (.cons (isL88 h) (.cons (isL89 h) (.cons (isL90 h) (.cons (isL91 h) (.cons (isL92 h) (.cons (isL93 h) (.cons (isL94 h) (.cons (isL95 h) (.cons (isL96 h) (.cons (isL97 h) (.cons (isL98 h) (.cons (isL99 h) (.cons (isL100 h) (.cons (isL101 h) (.nil)))))))))))))))))))))))))))))))) (by kernel_rfl) runL102
theorem isL103 : PureC Tryz.prog (Go.Ax.frozen W) (eL103).1 (eL103).2.1 (eL103).2.2 := pure_of_run (pok h (T := [eL50]) (.cons (isL50 h) (.nil))) (by kernel_rfl) runL103
theorem isL104 : PureC Tryz.prog (Go.Ax.frozen W) (eL104).1 (eL104).2.1 (eL104).2.2 := pure_of_run (pok h (T := [eL51]) (.cons (isL51 h) (.nil))) (by kernel_rfl) runL104
theorem isL105 : PureC Tryz.prog (Go.Ax.frozen W) (eL105).1 (eL105).2.1 (eL105).2.2 := pure_of_run (pok h (T := [eL50]) (.cons (isL50 h) (.nil))) (by kernel_rfl) runL105
theorem isL106 : PureC Tryz.prog (Go.Ax.frozen W) (eL106).1 (eL106).2.1 (eL106).2.2 := pure_of_run (pok h (T := [eL51]) (.cons (isL51 h) (.nil))) (by kernel_rfl) runL106
theorem isL107 : PureC Tryz.prog (Go.Ax.frozen W) (eL107).1 (eL107).2.1 (eL107).2.2 := pure_of_run (pok h (T := [eL51]) (.cons (isL51 h) (.nil))) (by kernel_rfl) runL107
theorem isL108 : PureC Tryz.prog (Go.Ax.frozen W) (eL108).1 (eL108).2.1 (eL108).2.2 := pure_of_run (pok h (T := [eL51]) (.cons (isL51 h) (.nil))) (by kernel_rfl) runL108
theorem isL109 : PureC Tryz.prog (Go.Ax.frozen W) (eL109).1 (eL109).2.1 (eL109).2.2 := pure_of_run (pok h (T := [eL78]) (.cons (isL78 h) (.nil))) (by kernel_rfl) runL109
theorem isL110 : PureC Tryz.prog (Go.Ax.frozen W) (eL110).1 (eL110).2.1 (eL110).2.2 := pure_of_run (pok h (T := []) (.nil)) (by kernel_rfl) runL110
theorem isL111 : PureC Tryz.prog (Go.Ax.frozen W) (eL111).1 (eL111).2.1 (eL111).2.2 := pure_of_run (pok h (T := []) (.nil)) (by kernel_rfl) runL111
theorem isL112 : PureC Tryz.prog (Go.Ax.frozen W) (eL112).1 (eL112).2.1 (eL112).2.2 := pure_of_run (pok h (T := []) (.nil)) (by kernel_rfl) runL112
theorem isL113 : PureC Tryz.prog (Go.Ax.frozen W) (eL113).1 (eL113).2.1 (eL113).2.2 := pure_of_run (pok h (T := [eL50]) (.cons (isL50 h) (.nil))) (by kernel_rfl) runL113
theorem isL114 : PureC Tryz.prog (Go.Ax.frozen W) (eL114).1 (eL114).2.1 (eL114).2.2 := pure_of_run (pok h (T := []) (.nil)) (by kernel_rfl) runL114
theorem isL115 : PureC Tryz.prog (Go.Ax.frozen W) (eL115).1 (eL115).2.1 (eL115).2.2 := pure_of_run (pok h (T := []) (.nil)) (by kernel_rfl) runL115
theorem isL116 : PureC Tryz.prog (Go.Ax.frozen W) (eL116).1 (eL116).2.1 (eL116).2.2 := pure_of_run (pok h (T := [eL50]) (.cons (isL50 h) (.nil))) (by kernel_rfl) runL116
theorem isL117 : PureC Tryz.prog (Go.Ax.frozen W) (eL117).1 (eL117).2.1 (eL117).2.2 := pure_of_run (pok h (T := []) (.nil)) (by kernel_rfl) runL117
theorem isL118 : PureC Tryz.prog (Go.Ax.frozen W) (eL118).1 (eL118).2.1 (eL118).2.2 := pure_of_run (pok h (T := []) (.nil)) (by kernel_rfl) runL118
theorem isL119 : PureC Tryz.prog (Go.Ax.frozen W) (eL119).1 (eL119).2.1 (eL119).2.2 := pure_of_run (pok h (T := [eL51]) (.cons (isL51 h) (.nil))) (by kernel_rfl) runL119
theorem isL120 : PureC Tryz.prog (Go.Ax.frozen W) (eL120).1 (eL120).2.1 (eL120).2.2 := pure_of_run (pok h (T := []) (.nil)) (by kernel_rfl) runL120
theorem isL121 : PureC Tryz.prog (Go.Ax.frozen W) (eL121).1 (eL121).2.1 (eL121).2.2 := pure_of_run (pok h (T := []) (.nil)) (by kernel_rfl) runL121
theorem isL122 : PureC Tryz.prog (Go.Ax.frozen W) (eL122).1 (eL122).2.1 (eL122).2.2 := pure_of_run (pok h (T := [eL78, eL86, eL121]) (.cons (isL78 h) (.cons (isL86 h) (.cons (isL121 h) (.nil))))) (by kernel_rfl) runL122
theorem isL123 : PureC Tryz.prog (Go.Ax.frozen W) (eL123).1 (eL123).2.1 (eL123).2.2 := pure_of_run (pok h (T := [eL50]) (.cons (isL50 h) (.nil))) (by kernel_rfl) runL123
theorem isL124 : PureC Tryz.prog (Go.Ax.frozen W) (eL124).1 (eL124).2.1 (eL124).2.2 := pure_of_run (pok h (T := []) (.nil)) (by kernel_rfl) runL124
theorem isL125 : PureC Tryz.prog (Go.Ax.frozen W) (eL125).1 (eL125).2.1 (eL125).2.2 := pure_of_run (pok h (T := [eL50]) (.cons (isL50 h) (.nil))) (by kernel_rfl) runL125
theorem isL126 : PureC Tryz.prog (Go.Ax.frozen W) (eL126).1 (eL126).2.1 (eL126).2.2 := pure_of_run (pok h (T := []) (.nil)) (by kernel_rfl) runL126
theorem isL127 : PureC Tryz.prog (Go.Ax.frozen W) (eL127).1 (eL127).2.1 (eL127).2.2 := pure_of_run (pok h (T := []) (.nil)) (by kernel_rfl) runL127
theorem isL128 : PureC Tryz.prog (Go.Ax.frozen W) (eL128).1 (eL128).2.1 (eL128).2.2 := pure_of_run (pok h (T := [eL50]) (.cons (isL50 h) (.nil))) (by kernel_rfl) runL128
theorem isL129 : PureC Tryz.prog (Go.Ax.frozen W) (eL129).1 (eL129).2.1 (eL129).2.2 := pure_of_run (pok h (T := []) (.nil)) (by kernel_rfl) runL129
theorem isL130 : PureC Tryz.prog (Go.Ax.frozen W) (eL130).1 (eL130).2.1 (eL130).2.2 := pure_of_run (pok h (T := []) (.nil)) (by kernel_rfl) runL130
theorem isL131 : PureC Tryz.prog (Go.Ax.frozen W) (eL131).1 (eL131).2.1 (eL131).2.2 := pure_of_run (pok h (T := []) (.nil)) (by kernel_rfl) runL131
theorem isL132 : PureC Tryz.prog (Go.Ax.frozen W) (eL132).1 (eL132).2.1 (eL132).2.2 := pure_of_run (pok h (T := []) (.nil)) (by kernel_rfl) runL132
theorem isL133 : PureC Tryz.prog (Go.Ax.frozen W) (eL133).1 (eL133).2.1 (eL133).2.2 := pure_of_run (pok h (T := [eL50]) (.cons (isL50 h) (.nil))) (by kernel_rfl) runL133
theorem isL134 : PureC Tryz.prog (Go.Ax.frozen W) (eL134).1 (eL134).2.1 (eL134).2.2 := pure_of_run (pok h (T := []) (.nil)) (by kernel_rfl) runL134
theorem isL135 : PureC Tryz.prog (Go.Ax.frozen W) (eL135).1 (eL135).2.1 (eL135).2.2 := pure_of_run (pok h (T := []) (.nil)) (by kernel_rfl) runL135
theorem isL136 : PureC Tryz.prog (Go.Ax.frozen W) (eL136).1 (eL136).2.1 (eL136).2.2 := pure_of_run (pok h (T := []) (.nil)) (by kernel_rfl) runL136
theorem isL137 : PureC Tryz.prog (Go.Ax.frozen W) (eL137).1 (eL137).2.1 (eL137).2.2 := pure_of_run (pok h (T := []) (.nil)) (by kernel_rfl) runL137
theorem isL138 : PureC Tryz.prog (Go.Ax.frozen W) (eL138).1 (eL138).2.1 (eL138).2.2 := pure_of_run (pok h (T := [eL50]) (.cons (isL50 h) (.nil))) (by kernel_rfl) runL138
theorem isL139 : PureC Tryz.prog (Go.Ax.frozen W) (eL139).1 (eL139).2.1 (eL139).2.2 := pure_of_run (pok h (T := []) (.nil)) (by kernel_rfl) runL139
theorem isL140 : PureC Tryz.prog (Go.Ax.frozen W) (eL140).1 (eL140).2.1 (eL140).2.2 := pure_of_run (pok h (T := []) (.nil)) (by kernel_rfl) runL140
theorem isL141 : PureC Tryz.prog (Go.Ax.frozen W) (eL141).1 (eL141).2.1 (eL141).2.2 := pure_of_run (pok h (T := []) (.nil)) (by kernel_rfl) runL141
theorem isL142 : PureC Tryz.prog (Go.Ax.frozen W) (eL142).1 (eL142).2.1 (eL142).2.2 := pure_of_run (pok h (T := []) (.nil)) (by kernel_rfl) runL142
theorem isL143 : PureC Tryz.prog (Go.Ax.frozen W) (eL143).1 (eL143).2.1 (eL143).2.2 := pure_of_run (pok h (T := [eL50]) (.cons (isL50 h) (.nil))) (by kernel_rfl) runL143
theorem isL144 : PureC Tryz.prog (Go.Ax.frozen W) (eL144).1 (eL144).2.1 (eL144).2.2 := pure_of_run (pok h (T := []) (.nil)) (by kernel_rfl) runL144
theorem isL145 : PureC Tryz.prog (Go.Ax.frozen W) (eL145).1 (eL145).2.1 (eL145).2.2 := pure_of_run (pok h (T := []) (.nil)) (by kernel_rfl) runL145
theorem isL146 : PureC Tryz.prog (Go.Ax.frozen W) (eL146).1 (eL146).2.1 (eL146).2.2 := pure_of_run (pok h (T := [eL50]) (.cons (isL50 h) (.nil))) (by kernel_rfl) runL146
theorem isL147 : PureC Tryz.prog (Go.Ax.frozen W) (eL147).1 (eL147).2.1 (eL147).2.2 := pure_of_run (pok h (T := []) (.nil)) (by kernel_rfl) runL147
theorem isL148 : PureC Tryz.prog (Go.Ax.frozen W) (eL148).1 (eL148).2.1 (eL148).2.2 := pure_of_run (pok h (T := []) (.nil)) (by kernel_rfl) runL148
theorem isL149 : PureC Tryz.prog (Go.Ax.frozen W) (eL149).1 (eL149).2.1 (eL149).2.2 := pure_of_run (pok h (T := [eL51]) (.cons (isL51 h) (.nil))) (by kernel_rfl) runL149
theorem isL150 : PureC Tryz.prog (Go.Ax.frozen W) (eL150).1 (eL150).2.1 (eL150).2.2 := pure_of_run (pok h (T := []) (.nil)) (by kernel_rfl) runL150
theorem isL151 : PureC Tryz.prog (Go.Ax.frozen W) (eL151).1 (eL151).2.1 (eL151).2.2 := pure_of_run (pok h (T := []) (.nil)) (by kernel_rfl) runL151
theorem isL152 : PureC Tryz.prog (Go.Ax.frozen W) (eL152).1 (eL152).2.1 (eL152).2.2 := pure_of_run (pok h (T := []) (.nil)) (by kernel_rfl) runL152
theorem isL153 : PureC Tryz.prog (Go.Ax.frozen W) (eL153).1 (eL153).2.1 (eL153).2.2 := pure_of_run (pok h (T := [eL78, eL151, eL152]) (.cons (isL78 h) (.cons (isL151 h) (.cons (isL152 h) (.nil))))) (by kernel_rfl) runL153
theorem isL154 : PureC Tryz.prog (Go.Ax.frozen W) (eL154).1 (eL154).2.1 (eL154).2.2 := pure_of_run (pok h (T := [eL50]) (.cons (isL50 h) (.nil))) (by kernel_rfl) runL154
theorem isL155 : PureC Tryz.prog (Go.Ax.frozen W) (eL155).1 (eL155).2.1 (eL155).2.2 := pure_of_run (pok h (T := []) (.nil)) (by kernel_rfl) runL155
theorem isL156 : PureC Tryz.prog (Go.Ax.frozen W) (eL156).1 (eL156).2.1 (eL156).2.2 := pure_of_run (pok h (T := []) (.nil)) (by kernel_rfl) runL156
theorem isL157 : PureC Tryz.prog (Go.Ax.frozen W) (eL157).1 (eL157).2.1 (eL157).2.2 := pure_of_run (pok h (T := []) (.nil)) (by kernel_rfl) runL157
theorem isL158 : PureC Tryz.prog (Go.Ax.frozen W) (eL158).1 (eL158).2.1 (eL158).2.2 := pure_of_run (pok h (T := []) (.nil)) (by kernel_rfl) runL158
theorem isL159 : PureC Tryz.prog (Go.Ax.frozen W) (eL159).1 (eL159).2.1 (eL159).2.2 := pure_of_run (pok h (T := []) (.nil)) (by kernel_rfl) runL159
theorem isL160 : PureC Tryz.prog (Go.Ax.frozen W) (eL160).1 (eL160).2.1 (eL160).2.2 := pure_of_run (pok h (T := [eL15, eL56, eL57, eL58, eL62, eL63, eL64, eL65, eL66, eL68, eL78, eL83, eL89, eL107, eL108, eL109, eL110, eL111, eL112, eL113, eL114, eL115, eL116, eL117, eL118, eL119, eL120, eL121, eL122, eL123, eL124, eL125, eL126, eL127, eL128, eL129, eL130, eL131, eL132, eL133, eL134, eL135, eL136, eL137, eL138, eL139, eL140, eL141, eL142, eL143, eL144, eL145, eL146, eL147, eL148, eL149, eL150, eL151, eL153, eL154, eL155, eL156, eL157, eL158, eL159]) (.cons (isL15 h) (.cons (isL56 h) (.cons (isL57 h) (.cons (isL58 h) (.cons (isL62 h) (.cons (isL63 h) (.cons (isL64 h) (.cons (isL65 h) (.cons (isL66 h) (.cons (isL68 h) (.cons (isL78 h) (.cons (isL83 h) (.cons (isL89 h) (.cons (isL107 h) (.cons (isL108 h) (.cons (isL109 h) (.cons (isL110 h) (.cons (isL111 h) (.cons (isL112 h) (.cons (isL113 h) (.cons (isL114 h) (.cons (isL115 h) (.cons (isL116 h) (.cons (isL117 h) (.cons (isL118 h) (.cons (isL119 h) (.cons (isL120 h) (.cons (isL121 h) (.cons (isL122 h) (.cons (isL123 h) (.cons (isL124 h) (.cons (isL125 h) (.cons (isL126 h) (.cons (isL127 h) (.cons (isL128 h) (.cons (isL129 h) (.cons (isL130 h) (.cons (isL131 h) (.cons (isL132 h) (.cons (isL133 h) (.cons (isL134 h) (.cons (isL135 h) (.cons (isL136 h) (.cons (isL137 h) (.cons (isL138 h) (.cons (isL139 h) (.cons (isL140 h) (.cons (isL141 h) (.cons (isL142 h) (.cons (isL143 h) (.cons (isL144 h) (.cons (isL145 h) (.cons (isL146 h) (.cons (isL147 h) (.cons (isL148 h) (.cons (isL149 h) (.cons (isL150 h) (.cons (isL151 h) (.cons (isL153 h) (.cons (isL154 h) (.cons (isL155 h) (.cons (isL156 h) (.cons (isL157 h) (.cons (isL158 h) (.cons (isL159 h) (.nil))))))))))))))))))))))))))))))))))))))))))))))))))))))))))))))))))) (by kernel_rfl) runL160
theorem isL161 : PureC Tryz.prog (Go.Ax.frozen W) (eL161).1 (eL161).2.1 (eL161).2.2 := pure_of_run (pok h (T := [eL51, eL70, eL73]) (.cons (isL51 h) (.cons (isL70 h) (.cons (isL73 h) (.nil))))) (by kernel_rfl) runL161
theorem isL162 : PureC Tryz.prog (Go.Ax.frozen W) (eL162).1 (eL162).2.1 (eL162).2.2 := pure_of_run (pok h (T := [eL51, eL70, eL73]) (.cons (isL51 h) (.cons (isL70 h) (.cons (isL73 h) (.nil))))) (by kernel_rfl) runL162
theorem isL163 : PureC Tryz.prog (Go.Ax.frozen W) (eL163).1 (eL163).2.1 (eL163).2.2 := pure_of_run (pok h (T := [eL51, eL70, eL73]) (.cons (isL51 h) (.cons (isL70 h) (.cons (isL73 h) (.nil))))) (by kernel_rfl) runL163
theorem isL164 : PureC Tryz.prog (Go.Ax.frozen W) (eL164).1 (eL164).2.1 (eL164).2.2 := pure_of_run (pok h (T := []) (.nil)) (by kernel_rfl) runL164
theorem isL165 : PureC Tryz.prog (Go.Ax.frozen W) (eL165).1 (eL165).2.1 (eL165).2.2 := pure_of_run (pok h (T := []) (.nil)) (by kernel_rfl) runL165
theorem isL166 : PureC Tryz.prog (Go.Ax.frozen W) (eL166).1 (eL166).2.1 (eL166).2.2 := pure_of_run (pok h (T := [eL164, eL165]) (.cons (isL164 h) (.cons (isL165 h) (.nil)))) (by kernel_rfl) runL166
theorem isL167 : PureC Tryz.prog (Go.Ax.frozen W) (eL167).1 (eL167).2.1 (eL167).2.2 := pure_of_run (pok h (T := [eL78]) (.cons (isL78 h) (.nil))) (by kernel_rfl) runL167
theorem isL168 : PureC Tryz.prog (Go.Ax.frozen W) (eL168).1 (eL168).2.1 (eL168).2.2 := pure_of_run (pok h (T := [eL50]) (.cons (isL50 h) (.nil))) (by kernel_rfl) runL168
theorem isL169 : PureC Tryz.prog (Go.Ax.frozen W) (eL169).1 (eL169).2.1 (eL169).2.2 := pure_of_run (pok h (T := [eL15, eL56, eL57, eL58, eL62, eL63, eL64, eL65, eL66, eL68, eL78, eL83, eL89, eL107, eL108, eL109, eL110, eL111, eL112, eL113, eL114, eL115, eL116, eL117, eL118, eL119, eL120, eL121, eL122, eL123, eL124, eL125, eL126, eL127, eL128, eL129, eL130, eL131, eL132, eL133, eL134, eL135, eL136, eL137, eL138, eL139, eL140, eL141, eL142, eL143, eL144, eL145, eL146, eL147, eL148, eL149, eL150, eL151, eL153, eL154, eL155, eL156, eL157, eL158, eL159]) (.cons (isL15 h) (.cons (isL56 h) (.cons (isL57 h) (.cons (isL58 h) (.cons (isL62 h) (.cons (isL63 h) (.cons (isL64 h) (.cons (isL65 h) (.cons (isL66 h) (.cons (isL68 h) (.cons (isL78 h) (.cons (isL83 h) (.cons (isL89 h) (.cons (isL107 h) (.cons (isL108 h) (.cons (isL109 h) (.cons (isL110 h) (.cons (isL111 h) (.cons (isL112 h) (.cons (isL113 h) (.cons (isL114 h) (.cons (isL115 h) (.cons (isL116 h) (.cons (isL117 h) (.cons (isL118 h) (.cons (isL119 h) (.cons (isL120 h) (.cons (isL121 h) (.cons (isL122 h) (.cons (isL123 h) (.cons (isL124 h) (.cons (isL125 h) (.cons (isL126 h) (.cons (isL127 h) (.cons (isL128 h) (.cons (isL129 h) (.cons (isL130 h) (.cons (isL131 h) (.cons (isL132 h) (.cons (isL133 h) (.cons (isL134 h) (.cons (isL135 h) (.cons (isL136 h) (.cons (isL137 h) (.cons (isL138 h) (.cons (isL139 h) (.cons (isL140 h) (.cons (isL141 h) (.cons (isL142 h) (.cons (isL143 h) (.cons (isL144 h) (.cons (isL145 h) (.cons (isL146 h) (.cons (isL147 h) (.cons (isL148 h) (.cons (isL149 h) (.cons (isL150 h) (.cons (isL151 h) (.cons (isL153 h) (.cons (isL154 h) (.cons (isL155 h) (.cons (isL156 h) (.cons (isL157 h) (.cons (isL158 h) (.cons (isL159 h) (.nil))))))))))))))))))))))))))))))))))))))))))))))))))))))))))))))))))) (by kernel_rfl) runL169
theorem isL170 : PureC Tryz.prog (Go.Ax.frozen W) (eL170).1 (eL170).2.1 (eL170).2.2 := pure_of_run (pok h (T := [eL51, eL70, eL73]) (.cons (isL51 h) (.cons (isL70 h) (.cons (isL73 h) (.nil))))) (by kernel_rfl) runL170
theorem isL171 : PureC Tryz.prog (Go.Ax.frozen W) (eL171).1 (eL171).2.1 (eL171).2.2 := pure_of_run (pok h (T := [eL51, eL70, eL73]) (.cons (isL51 h) (.cons (isL70 h) (.cons (isL73 h) (.nil))))) (by kernel_rfl) runL171
theorem isL172 : PureC Tryz.prog (Go.Ax.frozen W) (eL172).1 (eL172).2.1 (eL172).2.2 := pure_of_run (pok h (T := [eL164, eL165]) (.cons (isL164 h) (.cons (isL165 h) (.nil)))) (by kernel_rfl) runL172
theorem isL173 : PureC Tryz.prog (Go.Ax.frozen W) (eL173).1 (eL173).2.1 (eL173).2.2 := pure_of_run (pok h (T := [eL70, eL102, eL103, eL104, eL105, eL106, eL160, eL161, eL162, eL163, eL166, eL167, eL168, eL169, eL170, eL171, eL172]) (.cons (isL70 h) (.cons (isL102 h) (.cons (isL103 h) (.cons (isL104 h) (.cons (isL105 h) (.cons (isL106 h) (.cons (isL160 h) (.cons (isL161 h) (.cons (isL162 h) (.cons (isL163 h) (.cons (isL166 h) (.cons (isL167 h) (.cons (isL168 h) (.cons (isL169 h) (.cons (isL170 h) (.cons (isL171 h) (.cons (isL172 h) (.nil))))))))))))))))))) (by kernel_rfl) runL173
theorem isL174 : PureC Tryz.prog (Go.Ax.frozen W) (eL174).1 (eL174).2.1 (eL174).2.2 := pure_of_run (pok h (T := [eL70, eL102]) (.cons (isL70 h) (.cons (isL102 h) (.nil)))) (by kernel_rfl) runL174
theorem isL175 : PureC Tryz.prog (Go.Ax.frozen W) (eL175).1 (eL175).2.1 (eL175).2.2 := pure_of_run (pok h (T := [eL70, eL102]) (.cons (isL70 h) (.cons (isL102 h) (.nil)))) (by kernel_rfl) runL175
theorem isL176 : PureC Tryz.prog (Go.Ax.frozen W) (eL176).1 (eL176).2.1 (eL176).2.2 := pure_of_run (pok h (T := []) (.nil)) (by kernel_rfl) runL176
theorem isL177 : PureC Tryz.prog (Go.Ax.frozen W) (eL177).1 (eL177).2.1 (eL177).2.2 := pure_of_run (pok h (T := [eL176]) (.cons (isL176 h) (.nil))) (by kernel_rfl) runL177
theorem isL178 : PureC Tryz.prog (Go.Ax.frozen W) (eL178).1 (eL178).2.1 (eL178).2.2 := pure_of_run (pok h (T := [eL177]) (.cons (isL177 h) (.nil))) (by kernel_rfl) runL178
theorem isL179 : PureC Tryz.prog (Go.Ax.frozen W) (eL179).1 (eL179).2.1 (eL179).2.2 := pure_of_run (pok h (T := [eL178]) (.cons (isL178 h) (.nil))) (by kernel_rfl) runL179
theorem isL180 : PureC Tryz.prog (Go.Ax.frozen W) (eL180).1 (eL180).2.1 (eL180).2.2 := pure_of_run (pok h (T := [eL179]) (.cons (isL179 h) (.nil))) (by kernel_rfl) runL180
theorem isL181 : PureC Tryz.prog (Go.Ax.frozen W) (eL181).1 (eL181).2.1 (eL181).2.2 := pure_of_run (pok h (T := [eL70, eL102, eL103, eL104]) (.cons (isL70 h) (.cons (isL102 h) (.cons (isL103 h) (.cons (isL104 h) (.nil)))))) (by kernel_rfl) runL181
theorem isL182 : PureC Tryz.prog (Go.Ax.frozen W) (eL182).1 (eL182).2.1 (eL182).2.2 := pure_of_run (pok h (T := [eL78]) (.cons (isL78 h) (.nil))) (by kernel_rfl) runL182
theorem isL183 : PureC Tryz.prog (Go.Ax.frozen W) (eL183).1 (eL183).2.1 (eL183).2.2 := pure_of_run (pok h (T := [eL15, eL56, eL57, eL58, eL62, eL63, eL64, eL65, eL66, eL68, eL78, eL83, eL89, eL107, eL108, eL109, eL110, eL111, eL112, eL113, eL114, eL115, eL116, eL117, eL118, eL119, eL120, eL121, eL122, eL123, eL124, eL125, eL126, eL127, eL128, eL129, eL130, eL131, eL132, eL133, eL134, eL135, eL136, eL137, eL138, eL139, eL140, eL141, eL142, eL143, eL144, eL145, eL146, eL147, eL148, eL149, eL150, eL151, eL153, eL154, eL155, eL156, eL157, eL158, eL159, eL182]) (.cons (isL15 h) (.cons (isL56 h) (.cons (isL57 h) (.cons (isL58 h) (.cons (isL62 h) (.cons (isL63 h) (.cons (isL64 h) (.cons (isL65 h) (.cons (isL66 h) (.cons (isL68 h) (.cons (isL78 h) (.cons (isL83 h) (.cons (isL89 h) (.cons (isL107 h) (.cons (isL108 h) (.cons (isL109 h) (.cons (isL110 h) (.cons (isL111 h) (.cons (isL112 h) (.cons (isL113 h) (.cons (isL114 h) (.cons (isL115 h) (.cons (isL116 h) (.cons (isL117 h) (.cons (isL118 h) (.cons (isL119 h) (.cons (isL120 h) (.cons (isL121 h) (.cons (isL122 h) (.cons (isL123 h) (.cons (isL124 h) (.cons (isL125 h) (.cons (isL126 h) (.cons (isL127 h) (.cons (isL128 h) (.cons (isL129 h) (.cons (isL130 h) (.cons (isL131 h) (.cons (isL132 h) (.cons (isL133 h) (.cons (isL134 h) (.cons (isL135 h) (.cons (isL136 h) (.cons (isL137 h) (.cons (isL138 h) (.cons (isL139 h) (.cons (isL140 h) (.cons (isL141 h) (.cons (isL142 h) (.cons (isL143 h) (.cons (isL144 h) (.cons (isL145 h) (.cons (isL146 h) (.cons (isL147 h) (.cons (isL148 h) (.cons (isL149 h) (.cons (isL150 h) (.cons (isL151 h) (.cons (isL153 h) (.cons (isL154 h) (.cons (isL155 h) (.cons (isL156 h) (.cons (isL157 h) (.cons (isL158 h) (.cons (isL159 h) (.cons (isL182 h) (.nil)))))))))))))))))))))))))))))))))))))))))))))))))))))))))))))))))))) (by kernel_rfl) runL183
theorem isL184 : PureC Tryz.prog (Go.Ax.frozen W) (eL184).1 (eL184).2.1 (eL184).2.2 := pure_of_run (pok h (T := [eL51, eL70, eL73]) (.cons (isL51 h) (.cons (isL70 h) (.cons (isL73 h) (.nil))))) (by kernel_rfl) runL184
theorem isL185 : PureC Tryz.prog (Go.Ax.frozen W) (eL185).1 (eL185).2.1 (eL185).2.2 := pure_of_run (pok h (T := [eL51, eL70, eL73]) (.cons (isL51 h) (.cons (isL70 h) (.cons (isL73 h) (.nil))))) (by kernel_rfl) runL185
theorem isL186 : PureC Tryz.prog (Go.Ax.frozen W) (eL186).1 (eL186).2.1 (eL186).2.2 := pure_of_run (pok h (T := [eL70, eL102, eL103, eL161, eL183, eL184, eL185]) (.cons (isL70 h) (.cons (isL102 h) (.cons (isL103 h) (.cons (isL161 h) (.cons (isL183 h) (.cons (isL184 h) (.cons (isL185 h) (.nil))))))))) (by kernel_rfl) runL186
theorem isL187 : PureC Tryz.prog (Go.Ax.frozen W) (eL187).1 (eL187).2.1 (eL187).2.2 := pure_of_run (pok h (T := [eL70, eL102, eL105, eL106]) (.cons (isL70 h) (.cons (isL102 h) (.cons (isL105 h) (.cons (isL106 h) (.nil)))))) (by kernel_rfl) runL187
theorem isL188 : PureC Tryz.prog (Go.Ax.frozen W) (eL188).1 (eL188).2.1 (eL188).2.2 := pure_of_run (pok h (T := [eL70, eL102, eL105, eL160, eL161, eL162, eL163, eL166, eL167]) (.cons (isL70 h) (.cons (isL102 h) (.cons (isL105 h) (.cons (isL160 h) (.cons (isL161 h) (.cons (isL162 h) (.cons (isL163 h) (.cons (isL166 h) (.cons (isL167 h) (.nil))))))))))) (by kernel_rfl) runL188
theorem isL189 : PureC Tryz.prog (Go.Ax.frozen W) (eL189).1 (eL189).2.1 (eL189).2.2 := pure_of_run (pok h (T := [eL70, eL102, eL106, eL168]) (.cons (isL70 h) (.cons (isL102 h) (.cons (isL106 h) (.cons (isL168 h) (.nil)))))) (by kernel_rfl) runL189
theorem isL190 : PureC Tryz.prog (Go.Ax.frozen W) (eL190).1 (eL190).2.1 (eL190).2.2 := pure_of_run (pok h (T := [eL70, eL102, eL161, eL168, eL169, eL170, eL171, eL172]) (.cons (isL70 h) (.cons (isL102 h) (.cons (isL161 h) (.cons (isL168 h) (.cons (isL169 h) (.cons (isL170 h) (.cons (isL171 h) (.cons (isL172 h) (.nil)))))))))) (by kernel_rfl) runL190
theorem tabsL : AllPure Tryz.prog (Go.Ax.frozen W) [eL48, eL173, eL174, eL175, eL180, eL181, eL186, eL187, eL188, eL189, eL190] := .cons (isL48 h) (.cons (isL173 h) (.cons (isL174 h) (.cons (isL175 h) (.cons (isL180 h) (.cons (isL181 h) (.cons (isL186 h) (.cons (isL187 h) (.cons (isL188 h) (.cons (isL189 h) (.cons (isL190 h) (.nil)))))))))))
end
abbrev tabLL : Tab := [eL48, eL173, eL174, eL175, eL180, eL181, eL186, eL187, eL188, eL189, eL190]
end Go.Proofs.YtifgafdcadffiaaGreatDoor
