/- PipeNames: the law's own run, and that all told calls are right. -/
import Derived.Test.YtklbkcldlcnidaaGreatDoorPR0
import Derived.Test.YtklbkcldlcnidaaGreatDoorPR1
import Derived.Test.YtklbkcldlcnidaaGreatDoorPR2
import Derived.Test.YtklbkcldlcnidaaGreatDoorPR3
import Derived.Test.YtklbkcldlcnidaaGreatDoorPR4
import Derived.Test.YtklbkcldlcnidaaGreatDoorPR5
import Derived.Test.YtklbkcldlcnidaaGreatDoorPR6
import Derived.Test.YtklbkcldlcnidaaGreatDoorPR7
import Derived.Test.YtklbkcldlcnidaaGreatDoorPR8
import Derived.Test.YtklbkcldlcnidaaGreatDoorPR9
import Derived.Test.YtklbkcldlcnidaaGreatDoorPR10
import Derived.Test.YtklbkcldlcnidaaGreatDoorPR11
import Derived.Test.YtklbkcldlcnidaaGreatDoorPR12
import Derived.Test.YtklbkcldlcnidaaGreatDoorPR13
namespace Go.Proofs.YtklbkcldlcnidaaGreatDoor
open Go.Ax
theorem runP : okTrue (call Tryz.prog (cx [eP177, eP180, eP183, eP187, eP191, eP200, eP262, eP263, eP266, eP338]) 20000 3 [] h0) = true := by kernel_rfl
section
variable {W : World} (h : laidMetH Tryz.prog laidR W)
include h
theorem isP0 : PureC Tryz.prog (Go.Ax.frozen W) (eP0).1 (eP0).2.1 (eP0).2.2 := pure_of_run (pok h (T := []) (.nil)) (by kernel_rfl) runP0
theorem isP1 : PureC Tryz.prog (Go.Ax.frozen W) (eP1).1 (eP1).2.1 (eP1).2.2 := pure_of_run (pok h (T := []) (.nil)) (by kernel_rfl) runP1
theorem isP2 : PureC Tryz.prog (Go.Ax.frozen W) (eP2).1 (eP2).2.1 (eP2).2.2 := pure_of_run (pok h (T := [eP1]) (.cons (isP1 h) (.nil))) (by kernel_rfl) runP2
theorem isP3 : PureC Tryz.prog (Go.Ax.frozen W) (eP3).1 (eP3).2.1 (eP3).2.2 := pure_of_run (pok h (T := [eP2]) (.cons (isP2 h) (.nil))) (by kernel_rfl) runP3
theorem isP4 : PureC Tryz.prog (Go.Ax.frozen W) (eP4).1 (eP4).2.1 (eP4).2.2 := pure_of_run (pok h (T := []) (.nil)) (by kernel_rfl) runP4
theorem isP5 : PureC Tryz.prog (Go.Ax.frozen W) (eP5).1 (eP5).2.1 (eP5).2.2 := pure_of_run (pok h (T := [eP4]) (.cons (isP4 h) (.nil))) (by kernel_rfl) runP5
theorem isP6 : PureC Tryz.prog (Go.Ax.frozen W) (eP6).1 (eP6).2.1 (eP6).2.2 := pure_of_run (pok h (T := [eP5]) (.cons (isP5 h) (.nil))) (by kernel_rfl) runP6
theorem isP7 : PureC Tryz.prog (Go.Ax.frozen W) (eP7).1 (eP7).2.1 (eP7).2.2 := pure_of_run (pok h (T := [eP2]) (.cons (isP2 h) (.nil))) (by kernel_rfl) runP7
theorem isP8 : PureC Tryz.prog (Go.Ax.frozen W) (eP8).1 (eP8).2.1 (eP8).2.2 := pure_of_run (pok h (T := []) (.nil)) (by kernel_rfl) runP8
theorem isP9 : PureC Tryz.prog (Go.Ax.frozen W) (eP9).1 (eP9).2.1 (eP9).2.2 := pure_of_run (pok h (T := []) (.nil)) (by kernel_rfl) runP9
theorem isP10 : PureC Tryz.prog (Go.Ax.frozen W) (eP10).1 (eP10).2.1 (eP10).2.2 := pure_of_run (pok h (T := []) (.nil)) (by kernel_rfl) runP10
theorem isP11 : PureC Tryz.prog (Go.Ax.frozen W) (eP11).1 (eP11).2.1 (eP11).2.2 := pure_of_run (pok h (T := [eP10]) (.cons (isP10 h) (.nil))) (by kernel_rfl) runP11
theorem isP12 : PureC Tryz.prog (Go.Ax.frozen W) (eP12).1 (eP12).2.1 (eP12).2.2 := pure_of_run (pok h (T := [eP11]) (.cons (isP11 h) (.nil))) (by kernel_rfl) runP12
theorem isP13 : PureC Tryz.prog (Go.Ax.frozen W) (eP13).1 (eP13).2.1 (eP13).2.2 := pure_of_run (pok h (T := [eP11]) (.cons (isP11 h) (.nil))) (by kernel_rfl) runP13
theorem isP14 : PureC Tryz.prog (Go.Ax.frozen W) (eP14).1 (eP14).2.1 (eP14).2.2 := pure_of_run (pok h (T := []) (.nil)) (by kernel_rfl) runP14
theorem isP15 : PureC Tryz.prog (Go.Ax.frozen W) (eP15).1 (eP15).2.1 (eP15).2.2 := pure_of_run (pok h (T := []) (.nil)) (by kernel_rfl) runP15
theorem isP16 : PureC Tryz.prog (Go.Ax.frozen W) (eP16).1 (eP16).2.1 (eP16).2.2 := pure_of_run (pok h (T := [eP5]) (.cons (isP5 h) (.nil))) (by kernel_rfl) runP16
theorem isP17 : PureC Tryz.prog (Go.Ax.frozen W) (eP17).1 (eP17).2.1 (eP17).2.2 := pure_of_run (pok h (T := [eP11]) (.cons (isP11 h) (.nil))) (by kernel_rfl) runP17
theorem isP18 : PureC Tryz.prog (Go.Ax.frozen W) (eP18).1 (eP18).2.1 (eP18).2.2 := pure_of_run (pok h (T := []) (.nil)) (by kernel_rfl) runP18
theorem isP19 : PureC Tryz.prog (Go.Ax.frozen W) (eP19).1 (eP19).2.1 (eP19).2.2 := pure_of_run (pok h (T := []) (.nil)) (by kernel_rfl) runP19
theorem isP20 : PureC Tryz.prog (Go.Ax.frozen W) (eP20).1 (eP20).2.1 (eP20).2.2 := pure_of_run (pok h (T := []) (.nil)) (by kernel_rfl) runP20
theorem isP21 : PureC Tryz.prog (Go.Ax.frozen W) (eP21).1 (eP21).2.1 (eP21).2.2 := pure_of_run (pok h (T := []) (.nil)) (by kernel_rfl) runP21
theorem isP22 : PureC Tryz.prog (Go.Ax.frozen W) (eP22).1 (eP22).2.1 (eP22).2.2 := pure_of_run (pok h (T := []) (.nil)) (by kernel_rfl) runP22
theorem isP23 : PureC Tryz.prog (Go.Ax.frozen W) (eP23).1 (eP23).2.1 (eP23).2.2 := pure_of_run (pok h (T := [eP22]) (.cons (isP22 h) (.nil))) (by kernel_rfl) runP23
theorem isP24 : PureC Tryz.prog (Go.Ax.frozen W) (eP24).1 (eP24).2.1 (eP24).2.2 := pure_of_run (pok h (T := [eP23]) (.cons (isP23 h) (.nil))) (by kernel_rfl) runP24
theorem isP25 : PureC Tryz.prog (Go.Ax.frozen W) (eP25).1 (eP25).2.1 (eP25).2.2 := pure_of_run (pok h (T := []) (.nil)) (by kernel_rfl) runP25
theorem isP26 : PureC Tryz.prog (Go.Ax.frozen W) (eP26).1 (eP26).2.1 (eP26).2.2 := pure_of_run (pok h (T := []) (.nil)) (by kernel_rfl) runP26
theorem isP27 : PureC Tryz.prog (Go.Ax.frozen W) (eP27).1 (eP27).2.1 (eP27).2.2 := pure_of_run (pok h (T := []) (.nil)) (by kernel_rfl) runP27
theorem isP28 : PureC Tryz.prog (Go.Ax.frozen W) (eP28).1 (eP28).2.1 (eP28).2.2 := pure_of_run (pok h (T := []) (.nil)) (by kernel_rfl) runP28
theorem isP29 : PureC Tryz.prog (Go.Ax.frozen W) (eP29).1 (eP29).2.1 (eP29).2.2 := pure_of_run (pok h (T := []) (.nil)) (by kernel_rfl) runP29
theorem isP30 : PureC Tryz.prog (Go.Ax.frozen W) (eP30).1 (eP30).2.1 (eP30).2.2 := pure_of_run (pok h (T := []) (.nil)) (by kernel_rfl) runP30
theorem isP31 : PureC Tryz.prog (Go.Ax.frozen W) (eP31).1 (eP31).2.1 (eP31).2.2 := pure_of_run (pok h (T := []) (.nil)) (by kernel_rfl) runP31
theorem isP32 : PureC Tryz.prog (Go.Ax.frozen W) (eP32).1 (eP32).2.1 (eP32).2.2 := pure_of_run (pok h (T := []) (.nil)) (by kernel_rfl) runP32
theorem isP33 : PureC Tryz.prog (Go.Ax.frozen W) (eP33).1 (eP33).2.1 (eP33).2.2 := pure_of_run (pok h (T := [eP0, eP3, eP6, eP7, eP8, eP9, eP12, eP13, eP14, eP15, eP16, eP17, eP18, eP19, eP20, eP21, eP24, eP25, eP26, eP27, eP28, eP29, eP30, eP31, eP32]) (.cons (isP0 h) (.cons (isP3 h) (.cons (isP6 h) (.cons (isP7 h) (.cons (isP8 h) (.cons (isP9 h) (.cons (isP12 h) (.cons (isP13 h) (.cons (isP14 h) (.cons (isP15 h) (.cons (isP16 h) (.cons (isP17 h) (.cons (isP18 h) (.cons (isP19 h) (.cons (isP20 h) (.cons (isP21 h) (.cons (isP24 h) (.cons (isP25 h) (.cons (isP26 h) (.cons (isP27 h) (.cons (isP28 h) (.cons (isP29 h) (.cons (isP30 h) (.cons (isP31 h) (.cons (isP32 h) (.nil))))))))))))))))))))))))))) (by kernel_rfl) runP33
theorem isP34 : PureC Tryz.prog (Go.Ax.frozen W) (eP34).1 (eP34).2.1 (eP34).2.2 := pure_of_run (pok h (T := []) (.nil)) (by kernel_rfl) runP34
theorem isP35 : PureC Tryz.prog (Go.Ax.frozen W) (eP35).1 (eP35).2.1 (eP35).2.2 := pure_of_run (pok h (T := [eP34]) (.cons (isP34 h) (.nil))) (by kernel_rfl) runP35
theorem isP36 : PureC Tryz.prog (Go.Ax.frozen W) (eP36).1 (eP36).2.1 (eP36).2.2 := pure_of_run (pok h (T := [eP35]) (.cons (isP35 h) (.nil))) (by kernel_rfl) runP36
theorem isP37 : PureC Tryz.prog (Go.Ax.frozen W) (eP37).1 (eP37).2.1 (eP37).2.2 := pure_of_run (pok h (T := [eP36]) (.cons (isP36 h) (.nil))) (by kernel_rfl) runP37
theorem isP38 : PureC Tryz.prog (Go.Ax.frozen W) (eP38).1 (eP38).2.1 (eP38).2.2 := pure_of_run (pok h (T := [eP36]) (.cons (isP36 h) (.nil))) (by kernel_rfl) runP38
theorem isP39 : PureC Tryz.prog (Go.Ax.frozen W) (eP39).1 (eP39).2.1 (eP39).2.2 := pure_of_run (pok h (T := [eP37, eP38]) (.cons (isP37 h) (.cons (isP38 h) (.nil)))) (by kernel_rfl) runP39
theorem isP40 : PureC Tryz.prog (Go.Ax.frozen W) (eP40).1 (eP40).2.1 (eP40).2.2 := pure_of_run (pok h (T := [eP36]) (.cons (isP36 h) (.nil))) (by kernel_rfl) runP40
theorem isP41 : PureC Tryz.prog (Go.Ax.frozen W) (eP41).1 (eP41).2.1 (eP41).2.2 := pure_of_run (pok h (T := []) (.nil)) (by kernel_rfl) runP41
theorem isP42 : PureC Tryz.prog (Go.Ax.frozen W) (eP42).1 (eP42).2.1 (eP42).2.2 := pure_of_run (pok h (T := []) (.nil)) (by kernel_rfl) runP42
theorem isP43 : PureC Tryz.prog (Go.Ax.frozen W) (eP43).1 (eP43).2.1 (eP43).2.2 := pure_of_run (pok h (T := []) (.nil)) (by kernel_rfl) runP43
theorem isP44 : PureC Tryz.prog (Go.Ax.frozen W) (eP44).1 (eP44).2.1 (eP44).2.2 := pure_of_run (pok h (T := []) (.nil)) (by kernel_rfl) runP44
theorem isP45 : PureC Tryz.prog (Go.Ax.frozen W) (eP45).1 (eP45).2.1 (eP45).2.2 := pure_of_run (pok h (T := []) (.nil)) (by kernel_rfl) runP45
theorem isP46 : PureC Tryz.prog (Go.Ax.frozen W) (eP46).1 (eP46).2.1 (eP46).2.2 := pure_of_run (pok h (T := []) (.nil)) (by kernel_rfl) runP46
theorem isP47 : PureC Tryz.prog (Go.Ax.frozen W) (eP47).1 (eP47).2.1 (eP47).2.2 := pure_of_run (pok h (T := [eP35]) (.cons (isP35 h) (.nil))) (by kernel_rfl) runP47
theorem isP48 : PureC Tryz.prog (Go.Ax.frozen W) (eP48).1 (eP48).2.1 (eP48).2.2 := pure_of_run (pok h (T := [eP47]) (.cons (isP47 h) (.nil))) (by kernel_rfl) runP48
theorem isP49 : PureC Tryz.prog (Go.Ax.frozen W) (eP49).1 (eP49).2.1 (eP49).2.2 := pure_of_run (pok h (T := [eP47]) (.cons (isP47 h) (.nil))) (by kernel_rfl) runP49
theorem isP50 : PureC Tryz.prog (Go.Ax.frozen W) (eP50).1 (eP50).2.1 (eP50).2.2 := pure_of_run (pok h (T := [eP48, eP49]) (.cons (isP48 h) (.cons (isP49 h) (.nil)))) (by kernel_rfl) runP50
theorem isP51 : PureC Tryz.prog (Go.Ax.frozen W) (eP51).1 (eP51).2.1 (eP51).2.2 := pure_of_run (pok h (T := [eP47]) (.cons (isP47 h) (.nil))) (by kernel_rfl) runP51
theorem isP52 : PureC Tryz.prog (Go.Ax.frozen W) (eP52).1 (eP52).2.1 (eP52).2.2 := pure_of_run (pok h (T := []) (.nil)) (by kernel_rfl) runP52
theorem isP53 : PureC Tryz.prog (Go.Ax.frozen W) (eP53).1 (eP53).2.1 (eP53).2.2 := pure_of_run (pok h (T := [eP8, eP14, eP15, eP18, eP20, eP25, eP27, eP29, eP30, eP31, eP32, eP35, eP37, eP39, eP40, eP41, eP42, eP43, eP44, eP45, eP46, eP48, eP50, eP51, eP52]) (.cons (isP8 h) (.cons (isP14 h) (.cons (isP15 h) (.cons (isP18 h) (.cons (isP20 h) (.cons (isP25 h) (.cons (isP27 h) (.cons (isP29 h) (.cons (isP30 h) (.cons (isP31 h) (.cons (isP32 h) (.cons (isP35 h) (.cons (isP37 h) (.cons (isP39 h) (.cons (isP40 h) (.cons (isP41 h) (.cons (isP42 h) (.cons (isP43 h) (.cons (isP44 h) (.cons (isP45 h) (.cons (isP46 h) (.cons (isP48 h) (.cons (isP50 h) (.cons (isP51 h) (.cons (isP52 h) (.nil))))))))))))))))))))))))))) (by kernel_rfl) runP53
theorem isP54 : PureC Tryz.prog (Go.Ax.frozen W) (eP54).1 (eP54).2.1 (eP54).2.2 := pure_of_run (pok h (T := []) (.nil)) (by kernel_rfl) runP54
theorem isP55 : PureC Tryz.prog (Go.Ax.frozen W) (eP55).1 (eP55).2.1 (eP55).2.2 := pure_of_run (pok h (T := [eP54]) (.cons (isP54 h) (.nil))) (by kernel_rfl) runP55
theorem isP56 : PureC Tryz.prog (Go.Ax.frozen W) (eP56).1 (eP56).2.1 (eP56).2.2 := pure_of_run (pok h (T := [eP53]) (.cons (isP53 h) (.nil))) (by kernel_rfl) runP56
theorem isP57 : PureC Tryz.prog (Go.Ax.frozen W) (eP57).1 (eP57).2.1 (eP57).2.2 := pure_of_run (pok h (T := [eP34]) (.cons (isP34 h) (.nil))) (by kernel_rfl) runP57
theorem isP58 : PureC Tryz.prog (Go.Ax.frozen W) (eP58).1 (eP58).2.1 (eP58).2.2 := pure_of_run (pok h (T := []) (.nil)) (by kernel_rfl) runP58
theorem isP59 : PureC Tryz.prog (Go.Ax.frozen W) (eP59).1 (eP59).2.1 (eP59).2.2 := pure_of_run (pok h (T := [eP57, eP58]) (.cons (isP57 h) (.cons (isP58 h) (.nil)))) (by kernel_rfl) runP59
theorem isP60 : PureC Tryz.prog (Go.Ax.frozen W) (eP60).1 (eP60).2.1 (eP60).2.2 := pure_of_run (pok h (T := []) (.nil)) (by kernel_rfl) runP60
theorem isP61 : PureC Tryz.prog (Go.Ax.frozen W) (eP61).1 (eP61).2.1 (eP61).2.2 := pure_of_run (pok h (T := [eP36, eP47, eP56, eP59]) (.cons (isP36 h) (.cons (isP47 h) (.cons (isP56 h) (.cons (isP59 h) (.nil)))))) (by kernel_rfl) runP61
theorem isP62 : PureC Tryz.prog (Go.Ax.frozen W) (eP62).1 (eP62).2.1 (eP62).2.2 := pure_of_run (pok h (T := []) (.nil)) (by kernel_rfl) runP62
theorem isP63 : PureC Tryz.prog (Go.Ax.frozen W) (eP63).1 (eP63).2.1 (eP63).2.2 := pure_of_run (pok h (T := [eP62]) (.cons (isP62 h) (.nil))) (by kernel_rfl) runP63
theorem isP64 : PureC Tryz.prog (Go.Ax.frozen W) (eP64).1 (eP64).2.1 (eP64).2.2 := pure_of_run (pok h (T := []) (.nil)) (by kernel_rfl) runP64
theorem isP65 : PureC Tryz.prog (Go.Ax.frozen W) (eP65).1 (eP65).2.1 (eP65).2.2 := pure_of_run (pok h (T := []) (.nil)) (by kernel_rfl) runP65
theorem isP66 : PureC Tryz.prog (Go.Ax.frozen W) (eP66).1 (eP66).2.1 (eP66).2.2 := pure_of_run (pok h (T := []) (.nil)) (by kernel_rfl) runP66
theorem isP67 : PureC Tryz.prog (Go.Ax.frozen W) (eP67).1 (eP67).2.1 (eP67).2.2 := pure_of_run (pok h (T := [eP62]) (.cons (isP62 h) (.nil))) (by kernel_rfl) runP67
theorem isP68 : PureC Tryz.prog (Go.Ax.frozen W) (eP68).1 (eP68).2.1 (eP68).2.2 := pure_of_run (pok h (T := []) (.nil)) (by kernel_rfl) runP68
theorem isP69 : PureC Tryz.prog (Go.Ax.frozen W) (eP69).1 (eP69).2.1 (eP69).2.2 := pure_of_run (pok h (T := []) (.nil)) (by kernel_rfl) runP69
theorem isP70 : PureC Tryz.prog (Go.Ax.frozen W) (eP70).1 (eP70).2.1 (eP70).2.2 := pure_of_run (pok h (T := [eP62]) (.cons (isP62 h) (.nil))) (by kernel_rfl) runP70
theorem isP71 : PureC Tryz.prog (Go.Ax.frozen W) (eP71).1 (eP71).2.1 (eP71).2.2 := pure_of_run (pok h (T := [eP62]) (.cons (isP62 h) (.nil))) (by kernel_rfl) runP71
theorem isP72 : PureC Tryz.prog (Go.Ax.frozen W) (eP72).1 (eP72).2.1 (eP72).2.2 := pure_of_run (pok h (T := [eP64]) (.cons (isP64 h) (.nil))) (by kernel_rfl) runP72
theorem isP73 : PureC Tryz.prog (Go.Ax.frozen W) (eP73).1 (eP73).2.1 (eP73).2.2 := pure_of_run (pok h (T := [eP62]) (.cons (isP62 h) (.nil))) (by kernel_rfl) runP73
theorem isP74 : PureC Tryz.prog (Go.Ax.frozen W) (eP74).1 (eP74).2.1 (eP74).2.2 := pure_of_run (pok h (T := [eP62]) (.cons (isP62 h) (.nil))) (by kernel_rfl) runP74
theorem isP75 : PureC Tryz.prog (Go.Ax.frozen W) (eP75).1 (eP75).2.1 (eP75).2.2 := pure_of_run (pok h (T := [eP62]) (.cons (isP62 h) (.nil))) (by kernel_rfl) runP75
theorem isP76 : PureC Tryz.prog (Go.Ax.frozen W) (eP76).1 (eP76).2.1 (eP76).2.2 := pure_of_run (pok h (T := [eP62]) (.cons (isP62 h) (.nil))) (by kernel_rfl) runP76
theorem isP77 : PureC Tryz.prog (Go.Ax.frozen W) (eP77).1 (eP77).2.1 (eP77).2.2 := pure_of_run (pok h (T := [eP62]) (.cons (isP62 h) (.nil))) (by kernel_rfl) runP77
theorem isP78 : PureC Tryz.prog (Go.Ax.frozen W) (eP78).1 (eP78).2.1 (eP78).2.2 := pure_of_run (pok h (T := [eP62]) (.cons (isP62 h) (.nil))) (by kernel_rfl) runP78
theorem isP79 : PureC Tryz.prog (Go.Ax.frozen W) (eP79).1 (eP79).2.1 (eP79).2.2 := pure_of_run (pok h (T := [eP62]) (.cons (isP62 h) (.nil))) (by kernel_rfl) runP79
theorem isP80 : PureC Tryz.prog (Go.Ax.frozen W) (eP80).1 (eP80).2.1 (eP80).2.2 := pure_of_all (pok h (T := [eP36, eP47, eP56, eP59, eP60, eP61, eP63, eP64, eP65, eP66, eP67, eP68, eP69, eP70, eP71, eP72, eP73, eP74, eP75, eP76, eP77, eP78, eP79]) (.cons (isP36 h) (.cons (isP47 h) (.cons (isP56 h) (.cons (isP59 h) (.cons (isP60 h) (.cons (isP61 h) (.cons (isP63 h) (.cons (isP64 h) (.cons (isP65 h) (.cons (isP66 h) (.cons (isP67 h) (.cons (isP68 h) (.cons (isP69 h) (.cons (isP70 h) (.cons (isP71 h) (.cons (isP72 h) (.cons (isP73 h) (.cons (isP74 h) (.cons (isP75 h) (.cons (isP76 h) (.cons (isP77 h) (.cons (isP78 h) (.cons (isP79 h) (.nil))))))))))))))))))))))))) (prT_ok (.nil)) (by kernel_rfl) runP80
theorem isP81 : PureC Tryz.prog (Go.Ax.frozen W) (eP81).1 (eP81).2.1 (eP81).2.2 := pure_of_run (pok h (T := []) (.nil)) (by kernel_rfl) runP81
theorem isP82 : PureC Tryz.prog (Go.Ax.frozen W) (eP82).1 (eP82).2.1 (eP82).2.2 := pure_of_run (pok h (T := [eP81]) (.cons (isP81 h) (.nil))) (by kernel_rfl) runP82
theorem isP83 : PureC Tryz.prog (Go.Ax.frozen W) (eP83).1 (eP83).2.1 (eP83).2.2 := pure_of_run (pok h (T := []) (.nil)) (by kernel_rfl) runP83
theorem isP84 : PureC Tryz.prog (Go.Ax.frozen W) (eP84).1 (eP84).2.1 (eP84).2.2 := pure_of_run (pok h (T := [eP34, eP53, eP54, eP80, eP82, eP83]) (.cons (isP34 h) (.cons (isP53 h) (.cons (isP54 h) (.cons (isP80 h) (.cons (isP82 h) (.cons (isP83 h) (.nil)))))))) (by kernel_rfl) runP84
theorem isP85 : PureC Tryz.prog (Go.Ax.frozen W) (eP85).1 (eP85).2.1 (eP85).2.2 := pure_of_run (pok h (T := [eP84]) (.cons (isP84 h) (.nil))) (by kernel_rfl) runP85
theorem isP86 : PureC Tryz.prog (Go.Ax.frozen W) (eP86).1 (eP86).2.1 (eP86).2.2 := pure_of_run (pok h (T := [eP34]) (.cons (isP34 h) (.nil))) (by kernel_rfl) runP86
theorem isP87 : PureC Tryz.prog (Go.Ax.frozen W) (eP87).1 (eP87).2.1 (eP87).2.2 := pure_of_run (pok h (T := [eP86]) (.cons (isP86 h) (.nil))) (by kernel_rfl) runP87
theorem isP88 : PureC Tryz.prog (Go.Ax.frozen W) (eP88).1 (eP88).2.1 (eP88).2.2 := pure_of_run (pok h (T := [eP87]) (.cons (isP87 h) (.nil))) (by kernel_rfl) runP88
theorem isP89 : PureC Tryz.prog (Go.Ax.frozen W) (eP89).1 (eP89).2.1 (eP89).2.2 := pure_of_run (pok h (T := [eP87]) (.cons (isP87 h) (.nil))) (by kernel_rfl) runP89
theorem isP90 : PureC Tryz.prog (Go.Ax.frozen W) (eP90).1 (eP90).2.1 (eP90).2.2 := pure_of_run (pok h (T := [eP88, eP89]) (.cons (isP88 h) (.cons (isP89 h) (.nil)))) (by kernel_rfl) runP90
theorem isP91 : PureC Tryz.prog (Go.Ax.frozen W) (eP91).1 (eP91).2.1 (eP91).2.2 := pure_of_run (pok h (T := []) (.nil)) (by kernel_rfl) runP91
theorem isP92 : PureC Tryz.prog (Go.Ax.frozen W) (eP92).1 (eP92).2.1 (eP92).2.2 := pure_of_run (pok h (T := [eP87]) (.cons (isP87 h) (.nil))) (by kernel_rfl) runP92
theorem isP93 : PureC Tryz.prog (Go.Ax.frozen W) (eP93).1 (eP93).2.1 (eP93).2.2 := pure_of_run (pok h (T := []) (.nil)) (by kernel_rfl) runP93
theorem isP94 : PureC Tryz.prog (Go.Ax.frozen W) (eP94).1 (eP94).2.1 (eP94).2.2 := pure_of_run (pok h (T := [eP86]) (.cons (isP86 h) (.nil))) (by kernel_rfl) runP94
theorem isP95 : PureC Tryz.prog (Go.Ax.frozen W) (eP95).1 (eP95).2.1 (eP95).2.2 := pure_of_run (pok h (T := [eP94]) (.cons (isP94 h) (.nil))) (by kernel_rfl) runP95
theorem isP96 : PureC Tryz.prog (Go.Ax.frozen W) (eP96).1 (eP96).2.1 (eP96).2.2 := pure_of_run (pok h (T := [eP94]) (.cons (isP94 h) (.nil))) (by kernel_rfl) runP96
theorem isP97 : PureC Tryz.prog (Go.Ax.frozen W) (eP97).1 (eP97).2.1 (eP97).2.2 := pure_of_run (pok h (T := [eP95, eP96]) (.cons (isP95 h) (.cons (isP96 h) (.nil)))) (by kernel_rfl) runP97
theorem isP98 : PureC Tryz.prog (Go.Ax.frozen W) (eP98).1 (eP98).2.1 (eP98).2.2 := pure_of_run (pok h (T := [eP94]) (.cons (isP94 h) (.nil))) (by kernel_rfl) runP98
theorem isP99 : PureC Tryz.prog (Go.Ax.frozen W) (eP99).1 (eP99).2.1 (eP99).2.2 := pure_of_run (pok h (T := [eP8, eP18, eP20, eP25, eP27, eP29, eP30, eP31, eP32, eP41, eP42, eP43, eP44, eP45, eP46, eP52, eP86, eP88, eP90, eP91, eP92, eP93, eP95, eP97, eP98]) (.cons (isP8 h) (.cons (isP18 h) (.cons (isP20 h) (.cons (isP25 h) (.cons (isP27 h) (.cons (isP29 h) (.cons (isP30 h) (.cons (isP31 h) (.cons (isP32 h) (.cons (isP41 h) (.cons (isP42 h) (.cons (isP43 h) (.cons (isP44 h) (.cons (isP45 h) (.cons (isP46 h) (.cons (isP52 h) (.cons (isP86 h) (.cons (isP88 h) (.cons (isP90 h) (.cons (isP91 h) (.cons (isP92 h) (.cons (isP93 h) (.cons (isP95 h) (.cons (isP97 h) (.cons (isP98 h) (.nil))))))))))))))))))))))))))) (by kernel_rfl) runP99
theorem isP100 : PureC Tryz.prog (Go.Ax.frozen W) (eP100).1 (eP100).2.1 (eP100).2.2 := pure_of_run (pok h (T := [eP99]) (.cons (isP99 h) (.nil))) (by kernel_rfl) runP100
theorem isP101 : PureC Tryz.prog (Go.Ax.frozen W) (eP101).1 (eP101).2.1 (eP101).2.2 := pure_of_run (pok h (T := [eP59, eP87, eP94, eP100]) (.cons (isP59 h) (.cons (isP87 h) (.cons (isP94 h) (.cons (isP100 h) (.nil)))))) (by kernel_rfl) runP101
theorem isP102 : PureC Tryz.prog (Go.Ax.frozen W) (eP102).1 (eP102).2.1 (eP102).2.2 := pure_of_all (pok h (T := [eP59, eP60, eP63, eP64, eP65, eP66, eP67, eP68, eP69, eP70, eP71, eP73, eP74, eP75, eP76, eP77, eP78, eP79, eP87, eP94, eP100, eP101]) (.cons (isP59 h) (.cons (isP60 h) (.cons (isP63 h) (.cons (isP64 h) (.cons (isP65 h) (.cons (isP66 h) (.cons (isP67 h) (.cons (isP68 h) (.cons (isP69 h) (.cons (isP70 h) (.cons (isP71 h) (.cons (isP73 h) (.cons (isP74 h) (.cons (isP75 h) (.cons (isP76 h) (.cons (isP77 h) (.cons (isP78 h) (.cons (isP79 h) (.cons (isP87 h) (.cons (isP94 h) (.cons (isP100 h) (.cons (isP101 h) (.nil)))))))))))))))))))))))) (prT_ok (.nil)) (by kernel_rfl) runP102
theorem isP103 : PureC Tryz.prog (Go.Ax.frozen W) (eP103).1 (eP103).2.1 (eP103).2.2 := pure_of_run (pok h (T := [eP86]) (.cons (isP86 h) (.nil))) (by kernel_rfl) runP103
theorem isP104 : PureC Tryz.prog (Go.Ax.frozen W) (eP104).1 (eP104).2.1 (eP104).2.2 := pure_of_run (pok h (T := [eP87]) (.cons (isP87 h) (.nil))) (by kernel_rfl) runP104
theorem isP105 : PureC Tryz.prog (Go.Ax.frozen W) (eP105).1 (eP105).2.1 (eP105).2.2 := pure_of_run (pok h (T := [eP100, eP102, eP103, eP104]) (.cons (isP100 h) (.cons (isP102 h) (.cons (isP103 h) (.cons (isP104 h) (.nil)))))) (by kernel_rfl) runP105
theorem isP106 : PureC Tryz.prog (Go.Ax.frozen W) (eP106).1 (eP106).2.1 (eP106).2.2 := pure_of_run (pok h (T := [eP59, eP87, eP94, eP100]) (.cons (isP59 h) (.cons (isP87 h) (.cons (isP94 h) (.cons (isP100 h) (.nil)))))) (by kernel_rfl) runP106
theorem isP107 : PureC Tryz.prog (Go.Ax.frozen W) (eP107).1 (eP107).2.1 (eP107).2.2 := pure_of_run (pok h (T := [eP102, eP106]) (.cons (isP102 h) (.cons (isP106 h) (.nil)))) (by kernel_rfl) runP107
theorem isP108 : PureC Tryz.prog (Go.Ax.frozen W) (eP108).1 (eP108).2.1 (eP108).2.2 := pure_of_run (pok h (T := [eP59, eP87, eP94, eP100]) (.cons (isP59 h) (.cons (isP87 h) (.cons (isP94 h) (.cons (isP100 h) (.nil)))))) (by kernel_rfl) runP108
theorem isP109 : PureC Tryz.prog (Go.Ax.frozen W) (eP109).1 (eP109).2.1 (eP109).2.2 := pure_of_run (pok h (T := [eP64]) (.cons (isP64 h) (.nil))) (by kernel_rfl) runP109
theorem isP110 : PureC Tryz.prog (Go.Ax.frozen W) (eP110).1 (eP110).2.1 (eP110).2.2 := pure_of_run (pok h (T := []) (.nil)) (by kernel_rfl) runP110
theorem isP111 : PureC Tryz.prog (Go.Ax.frozen W) (eP111).1 (eP111).2.1 (eP111).2.2 := pure_of_run (pok h (T := [eP110]) (.cons (isP110 h) (.nil))) (by kernel_rfl) runP111
theorem isP112 : PureC Tryz.prog (Go.Ax.frozen W) (eP112).1 (eP112).2.1 (eP112).2.2 := pure_of_run (pok h (T := [eP59, eP87, eP94, eP100, eP102, eP107, eP108, eP109, eP111]) (.cons (isP59 h) (.cons (isP87 h) (.cons (isP94 h) (.cons (isP100 h) (.cons (isP102 h) (.cons (isP107 h) (.cons (isP108 h) (.cons (isP109 h) (.cons (isP111 h) (.nil))))))))))) (by kernel_rfl) runP112
theorem isP113 : PureC Tryz.prog (Go.Ax.frozen W) (eP113).1 (eP113).2.1 (eP113).2.2 := pure_of_run (pok h (T := [eP105, eP112]) (.cons (isP105 h) (.cons (isP112 h) (.nil)))) (by kernel_rfl) runP113
theorem isP114 : PureC Tryz.prog (Go.Ax.frozen W) (eP114).1 (eP114).2.1 (eP114).2.2 := pure_of_run (pok h (T := [eP59, eP87, eP94, eP100]) (.cons (isP59 h) (.cons (isP87 h) (.cons (isP94 h) (.cons (isP100 h) (.nil)))))) (by kernel_rfl) runP114
theorem isP115 : PureC Tryz.prog (Go.Ax.frozen W) (eP115).1 (eP115).2.1 (eP115).2.2 := pure_of_run (pok h (T := []) (.nil)) (by kernel_rfl) runP115
theorem isP116 : PureC Tryz.prog (Go.Ax.frozen W) (eP116).1 (eP116).2.1 (eP116).2.2 := pure_of_run (pok h (T := [eP59, eP87, eP94, eP100]) (.cons (isP59 h) (.cons (isP87 h) (.cons (isP94 h) (.cons (isP100 h) (.nil)))))) (by kernel_rfl) runP116
theorem isP117 : PureC Tryz.prog (Go.Ax.frozen W) (eP117).1 (eP117).2.1 (eP117).2.2 := pure_of_run (pok h (T := [eP9, eP19, eP21, eP26, eP28, eP30, eP32, eP34, eP41, eP42, eP43, eP44, eP45, eP46, eP52, eP54, eP59, eP93, eP99, eP100, eP102, eP113, eP114, eP115, eP116]) (.cons (isP9 h) (.cons (isP19 h) (.cons (isP21 h) (.cons (isP26 h) (.cons (isP28 h) (.cons (isP30 h) (.cons (isP32 h) (.cons (isP34 h) (.cons (isP41 h) (.cons (isP42 h) (.cons (isP43 h) (.cons (isP44 h) (.cons (isP45 h) (.cons (isP46 h) (.cons (isP52 h) (.cons (isP54 h) (.cons (isP59 h) (.cons (isP93 h) (.cons (isP99 h) (.cons (isP100 h) (.cons (isP102 h) (.cons (isP113 h) (.cons (isP114 h) (.cons (isP115 h) (.cons (isP116 h) (.nil))))))))))))))))))))))))))) (by kernel_rfl) runP117
theorem isP118 : PureC Tryz.prog (Go.Ax.frozen W) (eP118).1 (eP118).2.1 (eP118).2.2 := pure_of_run (pok h (T := [eP117]) (.cons (isP117 h) (.nil))) (by kernel_rfl) runP118
theorem isP119 : PureC Tryz.prog (Go.Ax.frozen W) (eP119).1 (eP119).2.1 (eP119).2.2 := pure_of_run (pok h (T := [eP54]) (.cons (isP54 h) (.nil))) (by kernel_rfl) runP119
theorem isP120 : PureC Tryz.prog (Go.Ax.frozen W) (eP120).1 (eP120).2.1 (eP120).2.2 := pure_of_run (pok h (T := [eP86]) (.cons (isP86 h) (.nil))) (by kernel_rfl) runP120
theorem isP121 : PureC Tryz.prog (Go.Ax.frozen W) (eP121).1 (eP121).2.1 (eP121).2.2 := pure_of_run (pok h (T := [eP88, eP89, eP120]) (.cons (isP88 h) (.cons (isP89 h) (.cons (isP120 h) (.nil))))) (by kernel_rfl) runP121
theorem isP122 : PureC Tryz.prog (Go.Ax.frozen W) (eP122).1 (eP122).2.1 (eP122).2.2 := pure_of_run (pok h (T := [eP9, eP19, eP21, eP26, eP28, eP46, eP54, eP87, eP115]) (.cons (isP9 h) (.cons (isP19 h) (.cons (isP21 h) (.cons (isP26 h) (.cons (isP28 h) (.cons (isP46 h) (.cons (isP54 h) (.cons (isP87 h) (.cons (isP115 h) (.nil))))))))))) (by kernel_rfl) runP122
theorem isP123 : PureC Tryz.prog (Go.Ax.frozen W) (eP123).1 (eP123).2.1 (eP123).2.2 := pure_of_run (pok h (T := [eP34]) (.cons (isP34 h) (.nil))) (by kernel_rfl) runP123
theorem isP124 : PureC Tryz.prog (Go.Ax.frozen W) (eP124).1 (eP124).2.1 (eP124).2.2 := pure_of_run (pok h (T := [eP123]) (.cons (isP123 h) (.nil))) (by kernel_rfl) runP124
theorem isP125 : PureC Tryz.prog (Go.Ax.frozen W) (eP125).1 (eP125).2.1 (eP125).2.2 := pure_of_run (pok h (T := []) (.nil)) (by kernel_rfl) runP125
theorem isP126 : PureC Tryz.prog (Go.Ax.frozen W) (eP126).1 (eP126).2.1 (eP126).2.2 := pure_of_run (pok h (T := []) (.nil)) (by kernel_rfl) runP126
theorem isP127 : PureC Tryz.prog (Go.Ax.frozen W) (eP127).1 (eP127).2.1 (eP127).2.2 := pure_of_run (pok h (T := [eP8, eP9, eP27, eP28, eP29, eP30, eP31, eP32, eP34, eP41, eP42, eP43, eP44, eP45, eP46, eP52, eP54, eP91, eP93, eP100, eP115, eP119, eP121, eP122, eP124, eP125, eP126]) (.cons (isP8 h) (.cons (isP9 h) (.cons (isP27 h) (.cons (isP28 h) (.cons (isP29 h) (.cons (isP30 h) (.cons (isP31 h) (.cons (isP32 h) (.cons (isP34 h) (.cons (isP41 h) (.cons (isP42 h) (.cons (isP43 h) (.cons (isP44 h) (.cons (isP45 h) (.cons (isP46 h) (.cons (isP52 h) (.cons (isP54 h) (.cons (isP91 h) (.cons (isP93 h) (.cons (isP100 h) (.cons (isP115 h) (.cons (isP119 h) (.cons (isP121 h) (.cons (isP122 h) (.cons (isP124 h) (.cons (isP125 h) (.cons (isP126 h) (.nil))))))))))))))))))))))))))))) (by kernel_rfl) runP127
theorem isP128 : PureC Tryz.prog (Go.Ax.frozen W) (eP128).1 (eP128).2.1 (eP128).2.2 := pure_of_run (pok h (T := [eP127]) (.cons (isP127 h) (.nil))) (by kernel_rfl) runP128
theorem isP129 : PureC Tryz.prog (Go.Ax.frozen W) (eP129).1 (eP129).2.1 (eP129).2.2 := pure_of_run (pok h (T := [eP34]) (.cons (isP34 h) (.nil))) (by kernel_rfl) runP129
theorem isP130 : PureC Tryz.prog (Go.Ax.frozen W) (eP130).1 (eP130).2.1 (eP130).2.2 := pure_of_run (pok h (T := [eP129]) (.cons (isP129 h) (.nil))) (by kernel_rfl) runP130
theorem isP131 : PureC Tryz.prog (Go.Ax.frozen W) (eP131).1 (eP131).2.1 (eP131).2.2 := pure_of_run (pok h (T := [eP130]) (.cons (isP130 h) (.nil))) (by kernel_rfl) runP131
theorem isP132 : PureC Tryz.prog (Go.Ax.frozen W) (eP132).1 (eP132).2.1 (eP132).2.2 := pure_of_run (pok h (T := [eP130]) (.cons (isP130 h) (.nil))) (by kernel_rfl) runP132
theorem isP133 : PureC Tryz.prog (Go.Ax.frozen W) (eP133).1 (eP133).2.1 (eP133).2.2 := pure_of_run (pok h (T := [eP131, eP132]) (.cons (isP131 h) (.cons (isP132 h) (.nil)))) (by kernel_rfl) runP133
theorem isP134 : PureC Tryz.prog (Go.Ax.frozen W) (eP134).1 (eP134).2.1 (eP134).2.2 := pure_of_run (pok h (T := [eP130]) (.cons (isP130 h) (.nil))) (by kernel_rfl) runP134
theorem isP135 : PureC Tryz.prog (Go.Ax.frozen W) (eP135).1 (eP135).2.1 (eP135).2.2 := pure_of_run (pok h (T := [eP129]) (.cons (isP129 h) (.nil))) (by kernel_rfl) runP135
theorem isP136 : PureC Tryz.prog (Go.Ax.frozen W) (eP136).1 (eP136).2.1 (eP136).2.2 := pure_of_run (pok h (T := [eP135]) (.cons (isP135 h) (.nil))) (by kernel_rfl) runP136
theorem isP137 : PureC Tryz.prog (Go.Ax.frozen W) (eP137).1 (eP137).2.1 (eP137).2.2 := pure_of_run (pok h (T := [eP135]) (.cons (isP135 h) (.nil))) (by kernel_rfl) runP137
theorem isP138 : PureC Tryz.prog (Go.Ax.frozen W) (eP138).1 (eP138).2.1 (eP138).2.2 := pure_of_run (pok h (T := [eP136, eP137]) (.cons (isP136 h) (.cons (isP137 h) (.nil)))) (by kernel_rfl) runP138
theorem isP139 : PureC Tryz.prog (Go.Ax.frozen W) (eP139).1 (eP139).2.1 (eP139).2.2 := pure_of_run (pok h (T := [eP135]) (.cons (isP135 h) (.nil))) (by kernel_rfl) runP139
theorem isP140 : PureC Tryz.prog (Go.Ax.frozen W) (eP140).1 (eP140).2.1 (eP140).2.2 := pure_of_run (pok h (T := [eP8, eP27, eP29, eP30, eP31, eP32, eP41, eP52, eP91, eP93, eP125, eP126, eP129, eP131, eP133, eP134, eP136, eP138, eP139]) (.cons (isP8 h) (.cons (isP27 h) (.cons (isP29 h) (.cons (isP30 h) (.cons (isP31 h) (.cons (isP32 h) (.cons (isP41 h) (.cons (isP52 h) (.cons (isP91 h) (.cons (isP93 h) (.cons (isP125 h) (.cons (isP126 h) (.cons (isP129 h) (.cons (isP131 h) (.cons (isP133 h) (.cons (isP134 h) (.cons (isP136 h) (.cons (isP138 h) (.cons (isP139 h) (.nil))))))))))))))))))))) (by kernel_rfl) runP140
theorem isP141 : PureC Tryz.prog (Go.Ax.frozen W) (eP141).1 (eP141).2.1 (eP141).2.2 := pure_of_run (pok h (T := [eP54]) (.cons (isP54 h) (.nil))) (by kernel_rfl) runP141
theorem isP142 : PureC Tryz.prog (Go.Ax.frozen W) (eP142).1 (eP142).2.1 (eP142).2.2 := pure_of_run (pok h (T := [eP140]) (.cons (isP140 h) (.nil))) (by kernel_rfl) runP142
theorem isP143 : PureC Tryz.prog (Go.Ax.frozen W) (eP143).1 (eP143).2.1 (eP143).2.2 := pure_of_run (pok h (T := []) (.nil)) (by kernel_rfl) runP143
theorem isP144 : PureC Tryz.prog (Go.Ax.frozen W) (eP144).1 (eP144).2.1 (eP144).2.2 := pure_of_run (pok h (T := [eP130, eP135, eP142]) (.cons (isP130 h) (.cons (isP135 h) (.cons (isP142 h) (.nil))))) (by kernel_rfl) runP144
theorem isP145 : PureC Tryz.prog (Go.Ax.frozen W) (eP145).1 (eP145).2.1 (eP145).2.2 := pure_of_run (pok h (T := []) (.nil)) (by kernel_rfl) runP145
theorem isP146 : PureC Tryz.prog (Go.Ax.frozen W) (eP146).1 (eP146).2.1 (eP146).2.2 := pure_of_run (pok h (T := [eP145]) (.cons (isP145 h) (.nil))) (by kernel_rfl) runP146
theorem isP147 : PureC Tryz.prog (Go.Ax.frozen W) (eP147).1 (eP147).2.1 (eP147).2.2 := pure_of_run (pok h (T := [eP145]) (.cons (isP145 h) (.nil))) (by kernel_rfl) runP147
theorem isP148 : PureC Tryz.prog (Go.Ax.frozen W) (eP148).1 (eP148).2.1 (eP148).2.2 := pure_of_run (pok h (T := [eP145]) (.cons (isP145 h) (.nil))) (by kernel_rfl) runP148
theorem isP149 : PureC Tryz.prog (Go.Ax.frozen W) (eP149).1 (eP149).2.1 (eP149).2.2 := pure_of_run (pok h (T := [eP145]) (.cons (isP145 h) (.nil))) (by kernel_rfl) runP149
theorem isP150 : PureC Tryz.prog (Go.Ax.frozen W) (eP150).1 (eP150).2.1 (eP150).2.2 := pure_of_run (pok h (T := [eP145]) (.cons (isP145 h) (.nil))) (by kernel_rfl) runP150
theorem isP151 : PureC Tryz.prog (Go.Ax.frozen W) (eP151).1 (eP151).2.1 (eP151).2.2 := pure_of_run (pok h (T := [eP145]) (.cons (isP145 h) (.nil))) (by kernel_rfl) runP151
theorem isP152 : PureC Tryz.prog (Go.Ax.frozen W) (eP152).1 (eP152).2.1 (eP152).2.2 := pure_of_run (pok h (T := [eP145]) (.cons (isP145 h) (.nil))) (by kernel_rfl) runP152
theorem isP153 : PureC Tryz.prog (Go.Ax.frozen W) (eP153).1 (eP153).2.1 (eP153).2.2 := pure_of_all (pok h (T := [eP64, eP65, eP66, eP130, eP135, eP142, eP143, eP144, eP146, eP147, eP148, eP149, eP150, eP151, eP152]) (.cons (isP64 h) (.cons (isP65 h) (.cons (isP66 h) (.cons (isP130 h) (.cons (isP135 h) (.cons (isP142 h) (.cons (isP143 h) (.cons (isP144 h) (.cons (isP146 h) (.cons (isP147 h) (.cons (isP148 h) (.cons (isP149 h) (.cons (isP150 h) (.cons (isP151 h) (.cons (isP152 h) (.nil))))))))))))))))) (prT_ok (.nil)) (by kernel_rfl) runP153
theorem isP154 : PureC Tryz.prog (Go.Ax.frozen W) (eP154).1 (eP154).2.1 (eP154).2.2 := pure_of_run (pok h (T := [eP153]) (.cons (isP153 h) (.nil))) (by kernel_rfl) runP154
theorem isP155 : PureC Tryz.prog (Go.Ax.frozen W) (eP155).1 (eP155).2.1 (eP155).2.2 := pure_of_run (pok h (T := [eP140, eP141, eP154]) (.cons (isP140 h) (.cons (isP141 h) (.cons (isP154 h) (.nil))))) (by kernel_rfl) runP155
theorem isP156 : PureC Tryz.prog (Go.Ax.frozen W) (eP156).1 (eP156).2.1 (eP156).2.2 := pure_of_run (pok h (T := [eP155]) (.cons (isP155 h) (.nil))) (by kernel_rfl) runP156
theorem isP157 : PureC Tryz.prog (Go.Ax.frozen W) (eP157).1 (eP157).2.1 (eP157).2.2 := pure_of_run (pok h (T := [eP28, eP30, eP52, eP54, eP93, eP115, eP125, eP126, eP140]) (.cons (isP28 h) (.cons (isP30 h) (.cons (isP52 h) (.cons (isP54 h) (.cons (isP93 h) (.cons (isP115 h) (.cons (isP125 h) (.cons (isP126 h) (.cons (isP140 h) (.nil))))))))))) (by kernel_rfl) runP157
theorem isP158 : PureC Tryz.prog (Go.Ax.frozen W) (eP158).1 (eP158).2.1 (eP158).2.2 := pure_of_run (pok h (T := [eP157]) (.cons (isP157 h) (.nil))) (by kernel_rfl) runP158
theorem isP159 : PureC Tryz.prog (Go.Ax.frozen W) (eP159).1 (eP159).2.1 (eP159).2.2 := pure_of_run (pok h (T := [eP34]) (.cons (isP34 h) (.nil))) (by kernel_rfl) runP159
theorem isP160 : PureC Tryz.prog (Go.Ax.frozen W) (eP160).1 (eP160).2.1 (eP160).2.2 := pure_of_run (pok h (T := [eP159]) (.cons (isP159 h) (.nil))) (by kernel_rfl) runP160
theorem isP161 : PureC Tryz.prog (Go.Ax.frozen W) (eP161).1 (eP161).2.1 (eP161).2.2 := pure_of_run (pok h (T := [eP160]) (.cons (isP160 h) (.nil))) (by kernel_rfl) runP161
theorem isP162 : PureC Tryz.prog (Go.Ax.frozen W) (eP162).1 (eP162).2.1 (eP162).2.2 := pure_of_run (pok h (T := [eP160]) (.cons (isP160 h) (.nil))) (by kernel_rfl) runP162
theorem isP163 : PureC Tryz.prog (Go.Ax.frozen W) (eP163).1 (eP163).2.1 (eP163).2.2 := pure_of_run (pok h (T := [eP161, eP162]) (.cons (isP161 h) (.cons (isP162 h) (.nil)))) (by kernel_rfl) runP163
theorem isP164 : PureC Tryz.prog (Go.Ax.frozen W) (eP164).1 (eP164).2.1 (eP164).2.2 := pure_of_run (pok h (T := [eP160]) (.cons (isP160 h) (.nil))) (by kernel_rfl) runP164
theorem isP165 : PureC Tryz.prog (Go.Ax.frozen W) (eP165).1 (eP165).2.1 (eP165).2.2 := pure_of_run (pok h (T := [eP159]) (.cons (isP159 h) (.nil))) (by kernel_rfl) runP165
theorem isP166 : PureC Tryz.prog (Go.Ax.frozen W) (eP166).1 (eP166).2.1 (eP166).2.2 := pure_of_run (pok h (T := [eP165]) (.cons (isP165 h) (.nil))) (by kernel_rfl) runP166
theorem isP167 : PureC Tryz.prog (Go.Ax.frozen W) (eP167).1 (eP167).2.1 (eP167).2.2 := pure_of_run (pok h (T := [eP165]) (.cons (isP165 h) (.nil))) (by kernel_rfl) runP167
theorem isP168 : PureC Tryz.prog (Go.Ax.frozen W) (eP168).1 (eP168).2.1 (eP168).2.2 := pure_of_run (pok h (T := [eP166, eP167]) (.cons (isP166 h) (.cons (isP167 h) (.nil)))) (by kernel_rfl) runP168
theorem isP169 : PureC Tryz.prog (Go.Ax.frozen W) (eP169).1 (eP169).2.1 (eP169).2.2 := pure_of_run (pok h (T := [eP165]) (.cons (isP165 h) (.nil))) (by kernel_rfl) runP169
theorem isP170 : PureC Tryz.prog (Go.Ax.frozen W) (eP170).1 (eP170).2.1 (eP170).2.2 := pure_of_run (pok h (T := [eP27, eP28, eP29, eP30, eP52, eP91, eP93, eP159, eP161, eP163, eP164, eP166, eP168, eP169]) (.cons (isP27 h) (.cons (isP28 h) (.cons (isP29 h) (.cons (isP30 h) (.cons (isP52 h) (.cons (isP91 h) (.cons (isP93 h) (.cons (isP159 h) (.cons (isP161 h) (.cons (isP163 h) (.cons (isP164 h) (.cons (isP166 h) (.cons (isP168 h) (.cons (isP169 h) (.nil)))))))))))))))) (by kernel_rfl) runP170
theorem isP171 : PureC Tryz.prog (Go.Ax.frozen W) (eP171).1 (eP171).2.1 (eP171).2.2 := pure_of_run (pok h (T := [eP53, eP55, eP85, eP99, eP118, eP128, eP140, eP156, eP158, eP170]) (.cons (isP53 h) (.cons (isP55 h) (.cons (isP85 h) (.cons (isP99 h) (.cons (isP118 h) (.cons (isP128 h) (.cons (isP140 h) (.cons (isP156 h) (.cons (isP158 h) (.cons (isP170 h) (.nil)))))))))))) (by kernel_rfl) runP171
theorem isP172 : PureC Tryz.prog (Go.Ax.frozen W) (eP172).1 (eP172).2.1 (eP172).2.2 := pure_of_run (pok h (T := [eP171]) (.cons (isP171 h) (.nil))) (by kernel_rfl) runP172
theorem isP173 : PureC Tryz.prog (Go.Ax.frozen W) (eP173).1 (eP173).2.1 (eP173).2.2 := pure_of_run (pok h (T := []) (.nil)) (by kernel_rfl) runP173
theorem isP174 : PureC Tryz.prog (Go.Ax.frozen W) (eP174).1 (eP174).2.1 (eP174).2.2 := pure_of_run (pok h (T := []) (.nil)) (by kernel_rfl) runP174
theorem isP175 : PureC Tryz.prog (Go.Ax.frozen W) (eP175).1 (eP175).2.1 (eP175).2.2 := pure_of_run (pok h (T := []) (.nil)) (by kernel_rfl) runP175
theorem isP176 : PureC Tryz.prog (Go.Ax.frozen W) (eP176).1 (eP176).2.1 (eP176).2.2 := pure_of_run (pok h (T := [eP27, eP28, eP29, eP30, eP91, eP93, eP159, eP173, eP174, eP175]) (.cons (isP27 h) (.cons (isP28 h) (.cons (isP29 h) (.cons (isP30 h) (.cons (isP91 h) (.cons (isP93 h) (.cons (isP159 h) (.cons (isP173 h) (.cons (isP174 h) (.cons (isP175 h) (.nil)))))))))))) (by kernel_rfl) runP176
theorem isP177 : PureC Tryz.prog (Go.Ax.frozen W) (eP177).1 (eP177).2.1 (eP177).2.2 := pure_of_run (pok h (T := [eP33, eP172, eP176]) (.cons (isP33 h) (.cons (isP172 h) (.cons (isP176 h) (.nil))))) (by kernel_rfl) runP177
theorem isP178 : PureC Tryz.prog (Go.Ax.frozen W) (eP178).1 (eP178).2.1 (eP178).2.2 := pure_of_run (pok h (T := []) (.nil)) (by kernel_rfl) runP178
theorem isP179 : PureC Tryz.prog (Go.Ax.frozen W) (eP179).1 (eP179).2.1 (eP179).2.2 := pure_of_run (pok h (T := [eP178]) (.cons (isP178 h) (.nil))) (by kernel_rfl) runP179
theorem isP180 : PureC Tryz.prog (Go.Ax.frozen W) (eP180).1 (eP180).2.1 (eP180).2.2 := pure_of_run (pok h (T := [eP179]) (.cons (isP179 h) (.nil))) (by kernel_rfl) runP180
theorem isP181 : PureC Tryz.prog (Go.Ax.frozen W) (eP181).1 (eP181).2.1 (eP181).2.2 := pure_of_run (pok h (T := []) (.nil)) (by kernel_rfl) runP181
theorem isP182 : PureC Tryz.prog (Go.Ax.frozen W) (eP182).1 (eP182).2.1 (eP182).2.2 := pure_of_run (pok h (T := [eP3, eP6, eP7, eP181]) (.cons (isP3 h) (.cons (isP6 h) (.cons (isP7 h) (.cons (isP181 h) (.nil)))))) (by kernel_rfl) runP182
theorem isP183 : PureC Tryz.prog (Go.Ax.frozen W) (eP183).1 (eP183).2.1 (eP183).2.2 := pure_of_run (pok h (T := [eP182]) (.cons (isP182 h) (.nil))) (by kernel_rfl) runP183
theorem isP184 : PureC Tryz.prog (Go.Ax.frozen W) (eP184).1 (eP184).2.1 (eP184).2.2 := pure_of_run (pok h (T := []) (.nil)) (by kernel_rfl) runP184
theorem isP185 : PureC Tryz.prog (Go.Ax.frozen W) (eP185).1 (eP185).2.1 (eP185).2.2 := pure_of_run (pok h (T := [eP184]) (.cons (isP184 h) (.nil))) (by kernel_rfl) runP185
theorem isP186 : PureC Tryz.prog (Go.Ax.frozen W) (eP186).1 (eP186).2.1 (eP186).2.2 := pure_of_run (pok h (T := [eP185]) (.cons (isP185 h) (.nil))) (by kernel_rfl) runP186
theorem isP187 : PureC Tryz.prog (Go.Ax.frozen W) (eP187).1 (eP187).2.1 (eP187).2.2 := pure_of_run (pok h (T := [eP186]) (.cons (isP186 h) (.nil))) (by kernel_rfl) runP187
theorem isP188 : PureC Tryz.prog (Go.Ax.frozen W) (eP188).1 (eP188).2.1 (eP188).2.2 := pure_of_run (pok h (T := []) (.nil)) (by kernel_rfl) runP188
theorem isP189 : PureC Tryz.prog (Go.Ax.frozen W) (eP189).1 (eP189).2.1 (eP189).2.2 := pure_of_run (pok h (T := []) (.nil)) (by kernel_rfl) runP189
theorem isP190 : PureC Tryz.prog (Go.Ax.frozen W) (eP190).1 (eP190).2.1 (eP190).2.2 := pure_of_run (pok h (T := []) (.nil)) (by kernel_rfl) runP190
theorem isP191 : PureC Tryz.prog (Go.Ax.frozen W) (eP191).1 (eP191).2.1 (eP191).2.2 := pure_of_run (pok h (T := [eP3, eP6, eP7, eP13, eP17, eP25, eP26, eP188, eP189, eP190]) (.cons (isP3 h) (.cons (isP6 h) (.cons (isP7 h) (.cons (isP13 h) (.cons (isP17 h) (.cons (isP25 h) (.cons (isP26 h) (.cons (isP188 h) (.cons (isP189 h) (.cons (isP190 h) (.nil)))))))))))) (by kernel_rfl) runP191
theorem isP192 : PureC Tryz.prog (Go.Ax.frozen W) (eP192).1 (eP192).2.1 (eP192).2.2 := pure_of_run (pok h (T := [eP34]) (.cons (isP34 h) (.nil))) (by kernel_rfl) runP192
theorem isP193 : PureC Tryz.prog (Go.Ax.frozen W) (eP193).1 (eP193).2.1 (eP193).2.2 := pure_of_run (pok h (T := [eP192]) (.cons (isP192 h) (.nil))) (by kernel_rfl) runP193
theorem isP194 : PureC Tryz.prog (Go.Ax.frozen W) (eP194).1 (eP194).2.1 (eP194).2.2 := pure_of_run (pok h (T := [eP193]) (.cons (isP193 h) (.nil))) (by kernel_rfl) runP194
theorem isP195 : PureC Tryz.prog (Go.Ax.frozen W) (eP195).1 (eP195).2.1 (eP195).2.2 := pure_of_run (pok h (T := [eP193]) (.cons (isP193 h) (.nil))) (by kernel_rfl) runP195
theorem isP196 : PureC Tryz.prog (Go.Ax.frozen W) (eP196).1 (eP196).2.1 (eP196).2.2 := pure_of_run (pok h (T := [eP194, eP195]) (.cons (isP194 h) (.cons (isP195 h) (.nil)))) (by kernel_rfl) runP196
theorem isP197 : PureC Tryz.prog (Go.Ax.frozen W) (eP197).1 (eP197).2.1 (eP197).2.2 := pure_of_run (pok h (T := [eP193]) (.cons (isP193 h) (.nil))) (by kernel_rfl) runP197
theorem isP198 : PureC Tryz.prog (Go.Ax.frozen W) (eP198).1 (eP198).2.1 (eP198).2.2 := pure_of_run (pok h (T := []) (.nil)) (by kernel_rfl) runP198
theorem isP199 : PureC Tryz.prog (Go.Ax.frozen W) (eP199).1 (eP199).2.1 (eP199).2.2 := pure_of_run (pok h (T := [eP25, eP26, eP126, eP189, eP192, eP194, eP196, eP197, eP198]) (.cons (isP25 h) (.cons (isP26 h) (.cons (isP126 h) (.cons (isP189 h) (.cons (isP192 h) (.cons (isP194 h) (.cons (isP196 h) (.cons (isP197 h) (.cons (isP198 h) (.nil))))))))))) (by kernel_rfl) runP199
theorem isP200 : PureC Tryz.prog (Go.Ax.frozen W) (eP200).1 (eP200).2.1 (eP200).2.2 := pure_of_run (pok h (T := [eP199]) (.cons (isP199 h) (.nil))) (by kernel_rfl) runP200
theorem isP201 : PureC Tryz.prog (Go.Ax.frozen W) (eP201).1 (eP201).2.1 (eP201).2.2 := pure_of_run (pok h (T := [eP54]) (.cons (isP54 h) (.nil))) (by kernel_rfl) runP201
theorem isP202 : PureC Tryz.prog (Go.Ax.frozen W) (eP202).1 (eP202).2.1 (eP202).2.2 := pure_of_run (pok h (T := [eP199]) (.cons (isP199 h) (.nil))) (by kernel_rfl) runP202
theorem isP203 : PureC Tryz.prog (Go.Ax.frozen W) (eP203).1 (eP203).2.1 (eP203).2.2 := pure_of_run (pok h (T := []) (.nil)) (by kernel_rfl) runP203
theorem isP204 : PureC Tryz.prog (Go.Ax.frozen W) (eP204).1 (eP204).2.1 (eP204).2.2 := pure_of_run (pok h (T := [eP59, eP193, eP202]) (.cons (isP59 h) (.cons (isP193 h) (.cons (isP202 h) (.nil))))) (by kernel_rfl) runP204
theorem isP205 : PureC Tryz.prog (Go.Ax.frozen W) (eP205).1 (eP205).2.1 (eP205).2.2 := pure_of_run (pok h (T := []) (.nil)) (by kernel_rfl) runP205
theorem isP206 : PureC Tryz.prog (Go.Ax.frozen W) (eP206).1 (eP206).2.1 (eP206).2.2 := pure_of_run (pok h (T := [eP205]) (.cons (isP205 h) (.nil))) (by kernel_rfl) runP206
theorem isP207 : PureC Tryz.prog (Go.Ax.frozen W) (eP207).1 (eP207).2.1 (eP207).2.2 := pure_of_run (pok h (T := [eP205]) (.cons (isP205 h) (.nil))) (by kernel_rfl) runP207
theorem isP208 : PureC Tryz.prog (Go.Ax.frozen W) (eP208).1 (eP208).2.1 (eP208).2.2 := pure_of_run (pok h (T := [eP205]) (.cons (isP205 h) (.nil))) (by kernel_rfl) runP208
theorem isP209 : PureC Tryz.prog (Go.Ax.frozen W) (eP209).1 (eP209).2.1 (eP209).2.2 := pure_of_run (pok h (T := [eP205]) (.cons (isP205 h) (.nil))) (by kernel_rfl) runP209
theorem isP210 : PureC Tryz.prog (Go.Ax.frozen W) (eP210).1 (eP210).2.1 (eP210).2.2 := pure_of_all (pok h (T := [eP59, eP64, eP65, eP66, eP193, eP202, eP203, eP204, eP206, eP207, eP208, eP209]) (.cons (isP59 h) (.cons (isP64 h) (.cons (isP65 h) (.cons (isP66 h) (.cons (isP193 h) (.cons (isP202 h) (.cons (isP203 h) (.cons (isP204 h) (.cons (isP206 h) (.cons (isP207 h) (.cons (isP208 h) (.cons (isP209 h) (.nil)))))))))))))) (prT_ok (.nil)) (by kernel_rfl) runP210
theorem isP211 : PureC Tryz.prog (Go.Ax.frozen W) (eP211).1 (eP211).2.1 (eP211).2.2 := pure_of_run (pok h (T := [eP34, eP54, eP199, eP210]) (.cons (isP34 h) (.cons (isP54 h) (.cons (isP199 h) (.cons (isP210 h) (.nil)))))) (by kernel_rfl) runP211
theorem isP212 : PureC Tryz.prog (Go.Ax.frozen W) (eP212).1 (eP212).2.1 (eP212).2.2 := pure_of_run (pok h (T := [eP211]) (.cons (isP211 h) (.nil))) (by kernel_rfl) runP212
theorem isP213 : PureC Tryz.prog (Go.Ax.frozen W) (eP213).1 (eP213).2.1 (eP213).2.2 := pure_of_run (pok h (T := [eP192]) (.cons (isP192 h) (.nil))) (by kernel_rfl) runP213
theorem isP214 : PureC Tryz.prog (Go.Ax.frozen W) (eP214).1 (eP214).2.1 (eP214).2.2 := pure_of_run (pok h (T := [eP193]) (.cons (isP193 h) (.nil))) (by kernel_rfl) runP214
theorem isP215 : PureC Tryz.prog (Go.Ax.frozen W) (eP215).1 (eP215).2.1 (eP215).2.2 := pure_of_run (pok h (T := [eP202, eP210, eP213, eP214]) (.cons (isP202 h) (.cons (isP210 h) (.cons (isP213 h) (.cons (isP214 h) (.nil)))))) (by kernel_rfl) runP215
theorem isP216 : PureC Tryz.prog (Go.Ax.frozen W) (eP216).1 (eP216).2.1 (eP216).2.2 := pure_of_run (pok h (T := [eP59, eP193, eP202]) (.cons (isP59 h) (.cons (isP193 h) (.cons (isP202 h) (.nil))))) (by kernel_rfl) runP216
theorem isP217 : PureC Tryz.prog (Go.Ax.frozen W) (eP217).1 (eP217).2.1 (eP217).2.2 := pure_of_run (pok h (T := [eP210, eP216]) (.cons (isP210 h) (.cons (isP216 h) (.nil)))) (by kernel_rfl) runP217
theorem isP218 : PureC Tryz.prog (Go.Ax.frozen W) (eP218).1 (eP218).2.1 (eP218).2.2 := pure_of_run (pok h (T := [eP59, eP193, eP202]) (.cons (isP59 h) (.cons (isP193 h) (.cons (isP202 h) (.nil))))) (by kernel_rfl) runP218
theorem isP219 : PureC Tryz.prog (Go.Ax.frozen W) (eP219).1 (eP219).2.1 (eP219).2.2 := pure_of_run (pok h (T := []) (.nil)) (by kernel_rfl) runP219
theorem isP220 : PureC Tryz.prog (Go.Ax.frozen W) (eP220).1 (eP220).2.1 (eP220).2.2 := pure_of_run (pok h (T := [eP59, eP109, eP193, eP202, eP210, eP217, eP218, eP219]) (.cons (isP59 h) (.cons (isP109 h) (.cons (isP193 h) (.cons (isP202 h) (.cons (isP210 h) (.cons (isP217 h) (.cons (isP218 h) (.cons (isP219 h) (.nil)))))))))) (by kernel_rfl) runP220
theorem isP221 : PureC Tryz.prog (Go.Ax.frozen W) (eP221).1 (eP221).2.1 (eP221).2.2 := pure_of_run (pok h (T := [eP215, eP220]) (.cons (isP215 h) (.cons (isP220 h) (.nil)))) (by kernel_rfl) runP221
theorem isP222 : PureC Tryz.prog (Go.Ax.frozen W) (eP222).1 (eP222).2.1 (eP222).2.2 := pure_of_run (pok h (T := [eP59, eP193, eP202]) (.cons (isP59 h) (.cons (isP193 h) (.cons (isP202 h) (.nil))))) (by kernel_rfl) runP222
theorem isP223 : PureC Tryz.prog (Go.Ax.frozen W) (eP223).1 (eP223).2.1 (eP223).2.2 := pure_of_run (pok h (T := [eP19, eP26, eP34, eP42, eP54, eP59, eP126, eP199, eP202, eP210, eP221, eP222]) (.cons (isP19 h) (.cons (isP26 h) (.cons (isP34 h) (.cons (isP42 h) (.cons (isP54 h) (.cons (isP59 h) (.cons (isP126 h) (.cons (isP199 h) (.cons (isP202 h) (.cons (isP210 h) (.cons (isP221 h) (.cons (isP222 h) (.nil)))))))))))))) (by kernel_rfl) runP223
theorem isP224 : PureC Tryz.prog (Go.Ax.frozen W) (eP224).1 (eP224).2.1 (eP224).2.2 := pure_of_run (pok h (T := [eP223]) (.cons (isP223 h) (.nil))) (by kernel_rfl) runP224
theorem isP225 : PureC Tryz.prog (Go.Ax.frozen W) (eP225).1 (eP225).2.1 (eP225).2.2 := pure_of_run (pok h (T := [eP34]) (.cons (isP34 h) (.nil))) (by kernel_rfl) runP225
theorem isP226 : PureC Tryz.prog (Go.Ax.frozen W) (eP226).1 (eP226).2.1 (eP226).2.2 := pure_of_run (pok h (T := [eP225]) (.cons (isP225 h) (.nil))) (by kernel_rfl) runP226
theorem isP227 : PureC Tryz.prog (Go.Ax.frozen W) (eP227).1 (eP227).2.1 (eP227).2.2 := pure_of_run (pok h (T := [eP226]) (.cons (isP226 h) (.nil))) (by kernel_rfl) runP227
theorem isP228 : PureC Tryz.prog (Go.Ax.frozen W) (eP228).1 (eP228).2.1 (eP228).2.2 := pure_of_run (pok h (T := [eP226]) (.cons (isP226 h) (.nil))) (by kernel_rfl) runP228
theorem isP229 : PureC Tryz.prog (Go.Ax.frozen W) (eP229).1 (eP229).2.1 (eP229).2.2 := pure_of_run (pok h (T := [eP227, eP228]) (.cons (isP227 h) (.cons (isP228 h) (.nil)))) (by kernel_rfl) runP229
theorem isP230 : PureC Tryz.prog (Go.Ax.frozen W) (eP230).1 (eP230).2.1 (eP230).2.2 := pure_of_run (pok h (T := [eP226]) (.cons (isP226 h) (.nil))) (by kernel_rfl) runP230
theorem isP231 : PureC Tryz.prog (Go.Ax.frozen W) (eP231).1 (eP231).2.1 (eP231).2.2 := pure_of_run (pok h (T := [eP18, eP25, eP26, eP42, eP126, eP225, eP227, eP229, eP230]) (.cons (isP18 h) (.cons (isP25 h) (.cons (isP26 h) (.cons (isP42 h) (.cons (isP126 h) (.cons (isP225 h) (.cons (isP227 h) (.cons (isP229 h) (.cons (isP230 h) (.nil))))))))))) (by kernel_rfl) runP231
theorem isP232 : PureC Tryz.prog (Go.Ax.frozen W) (eP232).1 (eP232).2.1 (eP232).2.2 := pure_of_run (pok h (T := [eP54]) (.cons (isP54 h) (.nil))) (by kernel_rfl) runP232
theorem isP233 : PureC Tryz.prog (Go.Ax.frozen W) (eP233).1 (eP233).2.1 (eP233).2.2 := pure_of_run (pok h (T := [eP231]) (.cons (isP231 h) (.nil))) (by kernel_rfl) runP233
theorem isP234 : PureC Tryz.prog (Go.Ax.frozen W) (eP234).1 (eP234).2.1 (eP234).2.2 := pure_of_run (pok h (T := [eP225]) (.cons (isP225 h) (.nil))) (by kernel_rfl) runP234
theorem isP235 : PureC Tryz.prog (Go.Ax.frozen W) (eP235).1 (eP235).2.1 (eP235).2.2 := pure_of_run (pok h (T := [eP34, eP54, eP234]) (.cons (isP34 h) (.cons (isP54 h) (.cons (isP234 h) (.nil))))) (by kernel_rfl) runP235
theorem isP236 : PureC Tryz.prog (Go.Ax.frozen W) (eP236).1 (eP236).2.1 (eP236).2.2 := pure_of_run (pok h (T := [eP34]) (.cons (isP34 h) (.nil))) (by kernel_rfl) runP236
theorem isP237 : PureC Tryz.prog (Go.Ax.frozen W) (eP237).1 (eP237).2.1 (eP237).2.2 := pure_of_run (pok h (T := [eP236]) (.cons (isP236 h) (.nil))) (by kernel_rfl) runP237
theorem isP238 : PureC Tryz.prog (Go.Ax.frozen W) (eP238).1 (eP238).2.1 (eP238).2.2 := pure_of_run (pok h (T := []) (.nil)) (by kernel_rfl) runP238
theorem isP239 : PureC Tryz.prog (Go.Ax.frozen W) (eP239).1 (eP239).2.1 (eP239).2.2 := pure_of_run (pok h (T := []) (.nil)) (by kernel_rfl) runP239
theorem isP240 : PureC Tryz.prog (Go.Ax.frozen W) (eP240).1 (eP240).2.1 (eP240).2.2 := pure_of_run (pok h (T := [eP26, eP34, eP42, eP52, eP54, eP126, eP232, eP233, eP235, eP237, eP238, eP239]) (.cons (isP26 h) (.cons (isP34 h) (.cons (isP42 h) (.cons (isP52 h) (.cons (isP54 h) (.cons (isP126 h) (.cons (isP232 h) (.cons (isP233 h) (.cons (isP235 h) (.cons (isP237 h) (.cons (isP238 h) (.cons (isP239 h) (.nil)))))))))))))) (by kernel_rfl) runP240
theorem isP241 : PureC Tryz.prog (Go.Ax.frozen W) (eP241).1 (eP241).2.1 (eP241).2.2 := pure_of_run (pok h (T := [eP240]) (.cons (isP240 h) (.nil))) (by kernel_rfl) runP241
theorem isP242 : PureC Tryz.prog (Go.Ax.frozen W) (eP242).1 (eP242).2.1 (eP242).2.2 := pure_of_run (pok h (T := [eP34]) (.cons (isP34 h) (.nil))) (by kernel_rfl) runP242
theorem isP243 : PureC Tryz.prog (Go.Ax.frozen W) (eP243).1 (eP243).2.1 (eP243).2.2 := pure_of_run (pok h (T := [eP242]) (.cons (isP242 h) (.nil))) (by kernel_rfl) runP243
theorem isP244 : PureC Tryz.prog (Go.Ax.frozen W) (eP244).1 (eP244).2.1 (eP244).2.2 := pure_of_run (pok h (T := [eP243]) (.cons (isP243 h) (.nil))) (by kernel_rfl) runP244
theorem isP245 : PureC Tryz.prog (Go.Ax.frozen W) (eP245).1 (eP245).2.1 (eP245).2.2 := pure_of_run (pok h (T := [eP243]) (.cons (isP243 h) (.nil))) (by kernel_rfl) runP245
theorem isP246 : PureC Tryz.prog (Go.Ax.frozen W) (eP246).1 (eP246).2.1 (eP246).2.2 := pure_of_run (pok h (T := [eP244, eP245]) (.cons (isP244 h) (.cons (isP245 h) (.nil)))) (by kernel_rfl) runP246
theorem isP247 : PureC Tryz.prog (Go.Ax.frozen W) (eP247).1 (eP247).2.1 (eP247).2.2 := pure_of_run (pok h (T := [eP243]) (.cons (isP243 h) (.nil))) (by kernel_rfl) runP247
theorem isP248 : PureC Tryz.prog (Go.Ax.frozen W) (eP248).1 (eP248).2.1 (eP248).2.2 := pure_of_run (pok h (T := [eP52, eP238, eP239, eP242, eP244, eP246, eP247]) (.cons (isP52 h) (.cons (isP238 h) (.cons (isP239 h) (.cons (isP242 h) (.cons (isP244 h) (.cons (isP246 h) (.cons (isP247 h) (.nil))))))))) (by kernel_rfl) runP248
theorem isP249 : PureC Tryz.prog (Go.Ax.frozen W) (eP249).1 (eP249).2.1 (eP249).2.2 := pure_of_run (pok h (T := [eP54]) (.cons (isP54 h) (.nil))) (by kernel_rfl) runP249
theorem isP250 : PureC Tryz.prog (Go.Ax.frozen W) (eP250).1 (eP250).2.1 (eP250).2.2 := pure_of_run (pok h (T := [eP248]) (.cons (isP248 h) (.nil))) (by kernel_rfl) runP250
theorem isP251 : PureC Tryz.prog (Go.Ax.frozen W) (eP251).1 (eP251).2.1 (eP251).2.2 := pure_of_run (pok h (T := []) (.nil)) (by kernel_rfl) runP251
theorem isP252 : PureC Tryz.prog (Go.Ax.frozen W) (eP252).1 (eP252).2.1 (eP252).2.2 := pure_of_run (pok h (T := [eP243, eP250]) (.cons (isP243 h) (.cons (isP250 h) (.nil)))) (by kernel_rfl) runP252
theorem isP253 : PureC Tryz.prog (Go.Ax.frozen W) (eP253).1 (eP253).2.1 (eP253).2.2 := pure_of_run (pok h (T := []) (.nil)) (by kernel_rfl) runP253
theorem isP254 : PureC Tryz.prog (Go.Ax.frozen W) (eP254).1 (eP254).2.1 (eP254).2.2 := pure_of_run (pok h (T := [eP253]) (.cons (isP253 h) (.nil))) (by kernel_rfl) runP254
theorem isP255 : PureC Tryz.prog (Go.Ax.frozen W) (eP255).1 (eP255).2.1 (eP255).2.2 := pure_of_run (pok h (T := [eP253]) (.cons (isP253 h) (.nil))) (by kernel_rfl) runP255
theorem isP256 : PureC Tryz.prog (Go.Ax.frozen W) (eP256).1 (eP256).2.1 (eP256).2.2 := pure_of_all (pok h (T := [eP243, eP250, eP251, eP252, eP254, eP255]) (.cons (isP243 h) (.cons (isP250 h) (.cons (isP251 h) (.cons (isP252 h) (.cons (isP254 h) (.cons (isP255 h) (.nil)))))))) (prT_ok (.nil)) (by kernel_rfl) runP256
theorem isP257 : PureC Tryz.prog (Go.Ax.frozen W) (eP257).1 (eP257).2.1 (eP257).2.2 := pure_of_run (pok h (T := [eP256]) (.cons (isP256 h) (.nil))) (by kernel_rfl) runP257
theorem isP258 : PureC Tryz.prog (Go.Ax.frozen W) (eP258).1 (eP258).2.1 (eP258).2.2 := pure_of_run (pok h (T := [eP248, eP249, eP257]) (.cons (isP248 h) (.cons (isP249 h) (.cons (isP257 h) (.nil))))) (by kernel_rfl) runP258
theorem isP259 : PureC Tryz.prog (Go.Ax.frozen W) (eP259).1 (eP259).2.1 (eP259).2.2 := pure_of_run (pok h (T := [eP258]) (.cons (isP258 h) (.nil))) (by kernel_rfl) runP259
theorem isP260 : PureC Tryz.prog (Go.Ax.frozen W) (eP260).1 (eP260).2.1 (eP260).2.2 := pure_of_run (pok h (T := [eP52, eP54, eP238, eP248]) (.cons (isP52 h) (.cons (isP54 h) (.cons (isP238 h) (.cons (isP248 h) (.nil)))))) (by kernel_rfl) runP260
theorem isP261 : PureC Tryz.prog (Go.Ax.frozen W) (eP261).1 (eP261).2.1 (eP261).2.2 := pure_of_run (pok h (T := [eP260]) (.cons (isP260 h) (.nil))) (by kernel_rfl) runP261
theorem isP262 : PureC Tryz.prog (Go.Ax.frozen W) (eP262).1 (eP262).2.1 (eP262).2.2 := pure_of_run (pok h (T := [eP199, eP201, eP212, eP224, eP231, eP241, eP248, eP259, eP261]) (.cons (isP199 h) (.cons (isP201 h) (.cons (isP212 h) (.cons (isP224 h) (.cons (isP231 h) (.cons (isP241 h) (.cons (isP248 h) (.cons (isP259 h) (.cons (isP261 h) (.nil))))))))))) (by kernel_rfl) runP262
theorem isP263 : PureC Tryz.prog (Go.Ax.frozen W) (eP263).1 (eP263).2.1 (eP263).2.2 := pure_of_run (pok h (T := [eP231]) (.cons (isP231 h) (.nil))) (by kernel_rfl) runP263
theorem isP264 : PureC Tryz.prog (Go.Ax.frozen W) (eP264).1 (eP264).2.1 (eP264).2.2 := pure_of_run (pok h (T := []) (.nil)) (by kernel_rfl) runP264
theorem isP265 : PureC Tryz.prog (Go.Ax.frozen W) (eP265).1 (eP265).2.1 (eP265).2.2 := pure_of_run (pok h (T := [eP3, eP7, eP17, eP189, eP190, eP264]) (.cons (isP3 h) (.cons (isP7 h) (.cons (isP17 h) (.cons (isP189 h) (.cons (isP190 h) (.cons (isP264 h) (.nil)))))))) (by kernel_rfl) runP265
theorem isP266 : PureC Tryz.prog (Go.Ax.frozen W) (eP266).1 (eP266).2.1 (eP266).2.2 := pure_of_run (pok h (T := [eP265]) (.cons (isP265 h) (.nil))) (by kernel_rfl) runP266
theorem isP267 : PureC Tryz.prog (Go.Ax.frozen W) (eP267).1 (eP267).2.1 (eP267).2.2 := pure_of_run (pok h (T := []) (.nil)) (by kernel_rfl) runP267
theorem isP268 : PureC Tryz.prog (Go.Ax.frozen W) (eP268).1 (eP268).2.1 (eP268).2.2 := pure_of_run (pok h (T := []) (.nil)) (by kernel_rfl) runP268
theorem isP269 : PureC Tryz.prog (Go.Ax.frozen W) (eP269).1 (eP269).2.1 (eP269).2.2 := pure_of_run (pok h (T := []) (.nil)) (by kernel_rfl) runP269
theorem isP270 : PureC Tryz.prog (Go.Ax.frozen W) (eP270).1 (eP270).2.1 (eP270).2.2 := pure_of_run (pok h (T := [eP269]) (.cons (isP269 h) (.nil))) (by kernel_rfl) runP270
theorem isP271 : PureC Tryz.prog (Go.Ax.frozen W) (eP271).1 (eP271).2.1 (eP271).2.2 := pure_of_run (pok h (T := [eP270]) (.cons (isP270 h) (.nil))) (by kernel_rfl) runP271
theorem isP272 : PureC Tryz.prog (Go.Ax.frozen W) (eP272).1 (eP272).2.1 (eP272).2.2 := pure_of_run (pok h (T := []) (.nil)) (by kernel_rfl) runP272
theorem isP273 : PureC Tryz.prog (Go.Ax.frozen W) (eP273).1 (eP273).2.1 (eP273).2.2 := pure_of_run (pok h (T := []) (.nil)) (by kernel_rfl) runP273
theorem isP274 : PureC Tryz.prog (Go.Ax.frozen W) (eP274).1 (eP274).2.1 (eP274).2.2 := pure_of_run (pok h (T := [eP3, eP6, eP7, eP13, eP17, eP20, eP21, eP25, eP26, eP189, eP190, eP238, eP239, eP267, eP268, eP271, eP272, eP273]) (.cons (isP3 h) (.cons (isP6 h) (.cons (isP7 h) (.cons (isP13 h) (.cons (isP17 h) (.cons (isP20 h) (.cons (isP21 h) (.cons (isP25 h) (.cons (isP26 h) (.cons (isP189 h) (.cons (isP190 h) (.cons (isP238 h) (.cons (isP239 h) (.cons (isP267 h) (.cons (isP268 h) (.cons (isP271 h) (.cons (isP272 h) (.cons (isP273 h) (.nil)))))))))))))))))))) (by kernel_rfl) runP274
theorem isP275 : PureC Tryz.prog (Go.Ax.frozen W) (eP275).1 (eP275).2.1 (eP275).2.2 := pure_of_run (pok h (T := [eP34]) (.cons (isP34 h) (.nil))) (by kernel_rfl) runP275
theorem isP276 : PureC Tryz.prog (Go.Ax.frozen W) (eP276).1 (eP276).2.1 (eP276).2.2 := pure_of_run (pok h (T := [eP275]) (.cons (isP275 h) (.nil))) (by kernel_rfl) runP276
theorem isP277 : PureC Tryz.prog (Go.Ax.frozen W) (eP277).1 (eP277).2.1 (eP277).2.2 := pure_of_run (pok h (T := [eP276]) (.cons (isP276 h) (.nil))) (by kernel_rfl) runP277
theorem isP278 : PureC Tryz.prog (Go.Ax.frozen W) (eP278).1 (eP278).2.1 (eP278).2.2 := pure_of_run (pok h (T := [eP276]) (.cons (isP276 h) (.nil))) (by kernel_rfl) runP278
theorem isP279 : PureC Tryz.prog (Go.Ax.frozen W) (eP279).1 (eP279).2.1 (eP279).2.2 := pure_of_run (pok h (T := [eP277, eP278]) (.cons (isP277 h) (.cons (isP278 h) (.nil)))) (by kernel_rfl) runP279
theorem isP280 : PureC Tryz.prog (Go.Ax.frozen W) (eP280).1 (eP280).2.1 (eP280).2.2 := pure_of_run (pok h (T := [eP276]) (.cons (isP276 h) (.nil))) (by kernel_rfl) runP280
theorem isP281 : PureC Tryz.prog (Go.Ax.frozen W) (eP281).1 (eP281).2.1 (eP281).2.2 := pure_of_run (pok h (T := []) (.nil)) (by kernel_rfl) runP281
theorem isP282 : PureC Tryz.prog (Go.Ax.frozen W) (eP282).1 (eP282).2.1 (eP282).2.2 := pure_of_run (pok h (T := []) (.nil)) (by kernel_rfl) runP282
theorem isP283 : PureC Tryz.prog (Go.Ax.frozen W) (eP283).1 (eP283).2.1 (eP283).2.2 := pure_of_run (pok h (T := []) (.nil)) (by kernel_rfl) runP283
theorem isP284 : PureC Tryz.prog (Go.Ax.frozen W) (eP284).1 (eP284).2.1 (eP284).2.2 := pure_of_run (pok h (T := [eP20, eP25, eP26, eP189, eP198, eP239, eP272, eP273, eP275, eP277, eP279, eP280, eP281, eP282, eP283]) (.cons (isP20 h) (.cons (isP25 h) (.cons (isP26 h) (.cons (isP189 h) (.cons (isP198 h) (.cons (isP239 h) (.cons (isP272 h) (.cons (isP273 h) (.cons (isP275 h) (.cons (isP277 h) (.cons (isP279 h) (.cons (isP280 h) (.cons (isP281 h) (.cons (isP282 h) (.cons (isP283 h) (.nil))))))))))))))))) (by kernel_rfl) runP284
theorem isP285 : PureC Tryz.prog (Go.Ax.frozen W) (eP285).1 (eP285).2.1 (eP285).2.2 := pure_of_run (pok h (T := [eP54]) (.cons (isP54 h) (.nil))) (by kernel_rfl) runP285
theorem isP286 : PureC Tryz.prog (Go.Ax.frozen W) (eP286).1 (eP286).2.1 (eP286).2.2 := pure_of_run (pok h (T := [eP284]) (.cons (isP284 h) (.nil))) (by kernel_rfl) runP286
theorem isP287 : PureC Tryz.prog (Go.Ax.frozen W) (eP287).1 (eP287).2.1 (eP287).2.2 := pure_of_run (pok h (T := [eP59, eP276, eP286]) (.cons (isP59 h) (.cons (isP276 h) (.cons (isP286 h) (.nil))))) (by kernel_rfl) runP287
theorem isP288 : PureC Tryz.prog (Go.Ax.frozen W) (eP288).1 (eP288).2.1 (eP288).2.2 := pure_of_all (pok h (T := [eP59, eP64, eP65, eP66, eP143, eP146, eP147, eP148, eP149, eP150, eP151, eP152, eP276, eP286, eP287]) (.cons (isP59 h) (.cons (isP64 h) (.cons (isP65 h) (.cons (isP66 h) (.cons (isP143 h) (.cons (isP146 h) (.cons (isP147 h) (.cons (isP148 h) (.cons (isP149 h) (.cons (isP150 h) (.cons (isP151 h) (.cons (isP152 h) (.cons (isP276 h) (.cons (isP286 h) (.cons (isP287 h) (.nil))))))))))))))))) (prT_ok (.nil)) (by kernel_rfl) runP288
theorem isP289 : PureC Tryz.prog (Go.Ax.frozen W) (eP289).1 (eP289).2.1 (eP289).2.2 := pure_of_run (pok h (T := [eP34, eP54, eP284, eP288]) (.cons (isP34 h) (.cons (isP54 h) (.cons (isP284 h) (.cons (isP288 h) (.nil)))))) (by kernel_rfl) runP289
theorem isP290 : PureC Tryz.prog (Go.Ax.frozen W) (eP290).1 (eP290).2.1 (eP290).2.2 := pure_of_run (pok h (T := [eP289]) (.cons (isP289 h) (.nil))) (by kernel_rfl) runP290
theorem isP291 : PureC Tryz.prog (Go.Ax.frozen W) (eP291).1 (eP291).2.1 (eP291).2.2 := pure_of_run (pok h (T := [eP275]) (.cons (isP275 h) (.nil))) (by kernel_rfl) runP291
theorem isP292 : PureC Tryz.prog (Go.Ax.frozen W) (eP292).1 (eP292).2.1 (eP292).2.2 := pure_of_run (pok h (T := [eP276]) (.cons (isP276 h) (.nil))) (by kernel_rfl) runP292
theorem isP293 : PureC Tryz.prog (Go.Ax.frozen W) (eP293).1 (eP293).2.1 (eP293).2.2 := pure_of_run (pok h (T := [eP286, eP288, eP291, eP292]) (.cons (isP286 h) (.cons (isP288 h) (.cons (isP291 h) (.cons (isP292 h) (.nil)))))) (by kernel_rfl) runP293
theorem isP294 : PureC Tryz.prog (Go.Ax.frozen W) (eP294).1 (eP294).2.1 (eP294).2.2 := pure_of_run (pok h (T := [eP59, eP276, eP286]) (.cons (isP59 h) (.cons (isP276 h) (.cons (isP286 h) (.nil))))) (by kernel_rfl) runP294
theorem isP295 : PureC Tryz.prog (Go.Ax.frozen W) (eP295).1 (eP295).2.1 (eP295).2.2 := pure_of_run (pok h (T := [eP288, eP294]) (.cons (isP288 h) (.cons (isP294 h) (.nil)))) (by kernel_rfl) runP295
theorem isP296 : PureC Tryz.prog (Go.Ax.frozen W) (eP296).1 (eP296).2.1 (eP296).2.2 := pure_of_run (pok h (T := [eP59, eP276, eP286]) (.cons (isP59 h) (.cons (isP276 h) (.cons (isP286 h) (.nil))))) (by kernel_rfl) runP296
theorem isP297 : PureC Tryz.prog (Go.Ax.frozen W) (eP297).1 (eP297).2.1 (eP297).2.2 := pure_of_run (pok h (T := [eP59, eP82, eP109, eP219, eP276, eP286, eP288, eP295, eP296]) (.cons (isP59 h) (.cons (isP82 h) (.cons (isP109 h) (.cons (isP219 h) (.cons (isP276 h) (.cons (isP286 h) (.cons (isP288 h) (.cons (isP295 h) (.cons (isP296 h) (.nil))))))))))) (by kernel_rfl) runP297
theorem isP298 : PureC Tryz.prog (Go.Ax.frozen W) (eP298).1 (eP298).2.1 (eP298).2.2 := pure_of_run (pok h (T := [eP293, eP297]) (.cons (isP293 h) (.cons (isP297 h) (.nil)))) (by kernel_rfl) runP298
theorem isP299 : PureC Tryz.prog (Go.Ax.frozen W) (eP299).1 (eP299).2.1 (eP299).2.2 := pure_of_run (pok h (T := [eP59, eP276, eP286]) (.cons (isP59 h) (.cons (isP276 h) (.cons (isP286 h) (.nil))))) (by kernel_rfl) runP299
theorem isP300 : PureC Tryz.prog (Go.Ax.frozen W) (eP300).1 (eP300).2.1 (eP300).2.2 := pure_of_run (pok h (T := [eP19, eP21, eP26, eP34, eP42, eP54, eP59, eP82, eP238, eP281, eP282, eP283, eP284, eP286, eP288, eP298, eP299]) (.cons (isP19 h) (.cons (isP21 h) (.cons (isP26 h) (.cons (isP34 h) (.cons (isP42 h) (.cons (isP54 h) (.cons (isP59 h) (.cons (isP82 h) (.cons (isP238 h) (.cons (isP281 h) (.cons (isP282 h) (.cons (isP283 h) (.cons (isP284 h) (.cons (isP286 h) (.cons (isP288 h) (.cons (isP298 h) (.cons (isP299 h) (.nil))))))))))))))))))) (by kernel_rfl) runP300
theorem isP301 : PureC Tryz.prog (Go.Ax.frozen W) (eP301).1 (eP301).2.1 (eP301).2.2 := pure_of_run (pok h (T := [eP300]) (.cons (isP300 h) (.nil))) (by kernel_rfl) runP301
theorem isP302 : PureC Tryz.prog (Go.Ax.frozen W) (eP302).1 (eP302).2.1 (eP302).2.2 := pure_of_run (pok h (T := [eP34]) (.cons (isP34 h) (.nil))) (by kernel_rfl) runP302
theorem isP303 : PureC Tryz.prog (Go.Ax.frozen W) (eP303).1 (eP303).2.1 (eP303).2.2 := pure_of_run (pok h (T := [eP302]) (.cons (isP302 h) (.nil))) (by kernel_rfl) runP303
theorem isP304 : PureC Tryz.prog (Go.Ax.frozen W) (eP304).1 (eP304).2.1 (eP304).2.2 := pure_of_run (pok h (T := [eP303]) (.cons (isP303 h) (.nil))) (by kernel_rfl) runP304
theorem isP305 : PureC Tryz.prog (Go.Ax.frozen W) (eP305).1 (eP305).2.1 (eP305).2.2 := pure_of_run (pok h (T := [eP303]) (.cons (isP303 h) (.nil))) (by kernel_rfl) runP305
theorem isP306 : PureC Tryz.prog (Go.Ax.frozen W) (eP306).1 (eP306).2.1 (eP306).2.2 := pure_of_run (pok h (T := [eP304, eP305]) (.cons (isP304 h) (.cons (isP305 h) (.nil)))) (by kernel_rfl) runP306
theorem isP307 : PureC Tryz.prog (Go.Ax.frozen W) (eP307).1 (eP307).2.1 (eP307).2.2 := pure_of_run (pok h (T := [eP303]) (.cons (isP303 h) (.nil))) (by kernel_rfl) runP307
theorem isP308 : PureC Tryz.prog (Go.Ax.frozen W) (eP308).1 (eP308).2.1 (eP308).2.2 := pure_of_run (pok h (T := [eP18, eP20, eP25, eP26, eP42, eP239, eP281, eP282, eP283, eP302, eP304, eP306, eP307]) (.cons (isP18 h) (.cons (isP20 h) (.cons (isP25 h) (.cons (isP26 h) (.cons (isP42 h) (.cons (isP239 h) (.cons (isP281 h) (.cons (isP282 h) (.cons (isP283 h) (.cons (isP302 h) (.cons (isP304 h) (.cons (isP306 h) (.cons (isP307 h) (.nil))))))))))))))) (by kernel_rfl) runP308
theorem isP309 : PureC Tryz.prog (Go.Ax.frozen W) (eP309).1 (eP309).2.1 (eP309).2.2 := pure_of_run (pok h (T := [eP54]) (.cons (isP54 h) (.nil))) (by kernel_rfl) runP309
theorem isP310 : PureC Tryz.prog (Go.Ax.frozen W) (eP310).1 (eP310).2.1 (eP310).2.2 := pure_of_run (pok h (T := [eP308]) (.cons (isP308 h) (.nil))) (by kernel_rfl) runP310
theorem isP311 : PureC Tryz.prog (Go.Ax.frozen W) (eP311).1 (eP311).2.1 (eP311).2.2 := pure_of_run (pok h (T := [eP302]) (.cons (isP302 h) (.nil))) (by kernel_rfl) runP311
theorem isP312 : PureC Tryz.prog (Go.Ax.frozen W) (eP312).1 (eP312).2.1 (eP312).2.2 := pure_of_run (pok h (T := [eP304, eP305, eP311]) (.cons (isP304 h) (.cons (isP305 h) (.cons (isP311 h) (.nil))))) (by kernel_rfl) runP312
theorem isP313 : PureC Tryz.prog (Go.Ax.frozen W) (eP313).1 (eP313).2.1 (eP313).2.2 := pure_of_run (pok h (T := [eP19, eP21, eP26, eP54, eP238, eP283, eP303]) (.cons (isP19 h) (.cons (isP21 h) (.cons (isP26 h) (.cons (isP54 h) (.cons (isP238 h) (.cons (isP283 h) (.cons (isP303 h) (.nil))))))))) (by kernel_rfl) runP313
theorem isP314 : PureC Tryz.prog (Go.Ax.frozen W) (eP314).1 (eP314).2.1 (eP314).2.2 := pure_of_run (pok h (T := [eP34]) (.cons (isP34 h) (.nil))) (by kernel_rfl) runP314
theorem isP315 : PureC Tryz.prog (Go.Ax.frozen W) (eP315).1 (eP315).2.1 (eP315).2.2 := pure_of_run (pok h (T := [eP314]) (.cons (isP314 h) (.nil))) (by kernel_rfl) runP315
theorem isP316 : PureC Tryz.prog (Go.Ax.frozen W) (eP316).1 (eP316).2.1 (eP316).2.2 := pure_of_run (pok h (T := [eP26, eP34, eP42, eP52, eP54, eP126, eP238, eP239, eP281, eP282, eP283, eP309, eP310, eP312, eP313, eP315]) (.cons (isP26 h) (.cons (isP34 h) (.cons (isP42 h) (.cons (isP52 h) (.cons (isP54 h) (.cons (isP126 h) (.cons (isP238 h) (.cons (isP239 h) (.cons (isP281 h) (.cons (isP282 h) (.cons (isP283 h) (.cons (isP309 h) (.cons (isP310 h) (.cons (isP312 h) (.cons (isP313 h) (.cons (isP315 h) (.nil)))))))))))))))))) (by kernel_rfl) runP316
theorem isP317 : PureC Tryz.prog (Go.Ax.frozen W) (eP317).1 (eP317).2.1 (eP317).2.2 := pure_of_run (pok h (T := [eP316]) (.cons (isP316 h) (.nil))) (by kernel_rfl) runP317
theorem isP318 : PureC Tryz.prog (Go.Ax.frozen W) (eP318).1 (eP318).2.1 (eP318).2.2 := pure_of_run (pok h (T := [eP34]) (.cons (isP34 h) (.nil))) (by kernel_rfl) runP318
theorem isP319 : PureC Tryz.prog (Go.Ax.frozen W) (eP319).1 (eP319).2.1 (eP319).2.2 := pure_of_run (pok h (T := [eP318]) (.cons (isP318 h) (.nil))) (by kernel_rfl) runP319
theorem isP320 : PureC Tryz.prog (Go.Ax.frozen W) (eP320).1 (eP320).2.1 (eP320).2.2 := pure_of_run (pok h (T := [eP319]) (.cons (isP319 h) (.nil))) (by kernel_rfl) runP320
theorem isP321 : PureC Tryz.prog (Go.Ax.frozen W) (eP321).1 (eP321).2.1 (eP321).2.2 := pure_of_run (pok h (T := [eP319]) (.cons (isP319 h) (.nil))) (by kernel_rfl) runP321
theorem isP322 : PureC Tryz.prog (Go.Ax.frozen W) (eP322).1 (eP322).2.1 (eP322).2.2 := pure_of_run (pok h (T := [eP320, eP321]) (.cons (isP320 h) (.cons (isP321 h) (.nil)))) (by kernel_rfl) runP322
theorem isP323 : PureC Tryz.prog (Go.Ax.frozen W) (eP323).1 (eP323).2.1 (eP323).2.2 := pure_of_run (pok h (T := [eP319]) (.cons (isP319 h) (.nil))) (by kernel_rfl) runP323
theorem isP324 : PureC Tryz.prog (Go.Ax.frozen W) (eP324).1 (eP324).2.1 (eP324).2.2 := pure_of_run (pok h (T := [eP52, eP239, eP281, eP318, eP320, eP322, eP323]) (.cons (isP52 h) (.cons (isP239 h) (.cons (isP281 h) (.cons (isP318 h) (.cons (isP320 h) (.cons (isP322 h) (.cons (isP323 h) (.nil))))))))) (by kernel_rfl) runP324
theorem isP325 : PureC Tryz.prog (Go.Ax.frozen W) (eP325).1 (eP325).2.1 (eP325).2.2 := pure_of_run (pok h (T := [eP54]) (.cons (isP54 h) (.nil))) (by kernel_rfl) runP325
theorem isP326 : PureC Tryz.prog (Go.Ax.frozen W) (eP326).1 (eP326).2.1 (eP326).2.2 := pure_of_run (pok h (T := [eP324]) (.cons (isP324 h) (.nil))) (by kernel_rfl) runP326
theorem isP327 : PureC Tryz.prog (Go.Ax.frozen W) (eP327).1 (eP327).2.1 (eP327).2.2 := pure_of_run (pok h (T := [eP319, eP326]) (.cons (isP319 h) (.cons (isP326 h) (.nil)))) (by kernel_rfl) runP327
theorem isP328 : PureC Tryz.prog (Go.Ax.frozen W) (eP328).1 (eP328).2.1 (eP328).2.2 := pure_of_all (pok h (T := [eP251, eP254, eP255, eP319, eP326, eP327]) (.cons (isP251 h) (.cons (isP254 h) (.cons (isP255 h) (.cons (isP319 h) (.cons (isP326 h) (.cons (isP327 h) (.nil)))))))) (prT_ok (.nil)) (by kernel_rfl) runP328
theorem isP329 : PureC Tryz.prog (Go.Ax.frozen W) (eP329).1 (eP329).2.1 (eP329).2.2 := pure_of_run (pok h (T := [eP328]) (.cons (isP328 h) (.nil))) (by kernel_rfl) runP329
theorem isP330 : PureC Tryz.prog (Go.Ax.frozen W) (eP330).1 (eP330).2.1 (eP330).2.2 := pure_of_run (pok h (T := [eP324, eP325, eP329]) (.cons (isP324 h) (.cons (isP325 h) (.cons (isP329 h) (.nil))))) (by kernel_rfl) runP330
theorem isP331 : PureC Tryz.prog (Go.Ax.frozen W) (eP331).1 (eP331).2.1 (eP331).2.2 := pure_of_run (pok h (T := [eP330]) (.cons (isP330 h) (.nil))) (by kernel_rfl) runP331
theorem isP332 : PureC Tryz.prog (Go.Ax.frozen W) (eP332).1 (eP332).2.1 (eP332).2.2 := pure_of_run (pok h (T := [eP52, eP54, eP238, eP281, eP324]) (.cons (isP52 h) (.cons (isP54 h) (.cons (isP238 h) (.cons (isP281 h) (.cons (isP324 h) (.nil))))))) (by kernel_rfl) runP332
theorem isP333 : PureC Tryz.prog (Go.Ax.frozen W) (eP333).1 (eP333).2.1 (eP333).2.2 := pure_of_run (pok h (T := [eP332]) (.cons (isP332 h) (.nil))) (by kernel_rfl) runP333
theorem isP334 : PureC Tryz.prog (Go.Ax.frozen W) (eP334).1 (eP334).2.1 (eP334).2.2 := pure_of_run (pok h (T := [eP284, eP285, eP290, eP301, eP308, eP317, eP324, eP331, eP333]) (.cons (isP284 h) (.cons (isP285 h) (.cons (isP290 h) (.cons (isP301 h) (.cons (isP308 h) (.cons (isP317 h) (.cons (isP324 h) (.cons (isP331 h) (.cons (isP333 h) (.nil))))))))))) (by kernel_rfl) runP334
theorem isP335 : PureC Tryz.prog (Go.Ax.frozen W) (eP335).1 (eP335).2.1 (eP335).2.2 := pure_of_run (pok h (T := [eP334]) (.cons (isP334 h) (.nil))) (by kernel_rfl) runP335
theorem isP336 : PureC Tryz.prog (Go.Ax.frozen W) (eP336).1 (eP336).2.1 (eP336).2.2 := pure_of_run (pok h (T := []) (.nil)) (by kernel_rfl) runP336
theorem isP337 : PureC Tryz.prog (Go.Ax.frozen W) (eP337).1 (eP337).2.1 (eP337).2.2 := pure_of_run (pok h (T := [eP173, eP174, eP239, eP281, eP318, eP336]) (.cons (isP173 h) (.cons (isP174 h) (.cons (isP239 h) (.cons (isP281 h) (.cons (isP318 h) (.cons (isP336 h) (.nil)))))))) (by kernel_rfl) runP337
theorem isP338 : PureC Tryz.prog (Go.Ax.frozen W) (eP338).1 (eP338).2.1 (eP338).2.2 := pure_of_run (pok h (T := [eP274, eP335, eP337]) (.cons (isP274 h) (.cons (isP335 h) (.cons (isP337 h) (.nil))))) (by kernel_rfl) runP338
theorem tabsP : AllPure Tryz.prog (Go.Ax.frozen W) [eP177, eP180, eP183, eP187, eP191, eP200, eP262, eP263, eP266, eP338] := .cons (isP177 h) (.cons (isP180 h) (.cons (isP183 h) (.cons (isP187 h) (.cons (isP191 h) (.cons (isP200 h) (.cons (isP262 h) (.cons (isP263 h) (.cons (isP266 h) (.cons (isP338 h) (.nil))))))))))
end
abbrev tabLP : Tab := [eP177, eP180, eP183, eP187, eP191, eP200, eP262, eP263, eP266, eP338]
end Go.Proofs.YtklbkcldlcnidaaGreatDoor
