/- StepNames: the law's own run, and that all told calls are right. -/
import Derived.Test.YtciljbmodhjpiaaGreatDoorSR0
import Derived.Test.YtciljbmodhjpiaaGreatDoorSR1
import Derived.Test.YtciljbmodhjpiaaGreatDoorSR2
import Derived.Test.YtciljbmodhjpiaaGreatDoorSR3
import Derived.Test.YtciljbmodhjpiaaGreatDoorSR4
import Derived.Test.YtciljbmodhjpiaaGreatDoorSR5
import Derived.Test.YtciljbmodhjpiaaGreatDoorSR6
import Derived.Test.YtciljbmodhjpiaaGreatDoorSR7
import Derived.Test.YtciljbmodhjpiaaGreatDoorSR8
import Derived.Test.YtciljbmodhjpiaaGreatDoorSR9
import Derived.Test.YtciljbmodhjpiaaGreatDoorSR10
import Derived.Test.YtciljbmodhjpiaaGreatDoorSR11
import Derived.Test.YtciljbmodhjpiaaGreatDoorSR12
import Derived.Test.YtciljbmodhjpiaaGreatDoorSR13
import Derived.Test.YtciljbmodhjpiaaGreatDoorSR14
import Derived.Test.YtciljbmodhjpiaaGreatDoorSR15
import Derived.Test.YtciljbmodhjpiaaGreatDoorSR16
import Derived.Test.YtciljbmodhjpiaaGreatDoorSR17
import Derived.Test.YtciljbmodhjpiaaGreatDoorSR18
import Derived.Test.YtciljbmodhjpiaaGreatDoorSR19
import Derived.Test.YtciljbmodhjpiaaGreatDoorSR20
import Derived.Test.YtciljbmodhjpiaaGreatDoorSR21
import Derived.Test.YtciljbmodhjpiaaGreatDoorSR22
import Derived.Test.YtciljbmodhjpiaaGreatDoorSR23
import Derived.Test.YtciljbmodhjpiaaGreatDoorSR24
import Derived.Test.YtciljbmodhjpiaaGreatDoorSR25
import Derived.Test.YtciljbmodhjpiaaGreatDoorSR26
import Derived.Test.YtciljbmodhjpiaaGreatDoorSR27
import Derived.Test.YtciljbmodhjpiaaGreatDoorSR28
import Derived.Test.YtciljbmodhjpiaaGreatDoorSR29
namespace Go.Proofs.YtciljbmodhjpiaaGreatDoor
open Go.Ax
theorem runS : okTrue (call Tryz.prog (cx [eS14, eS28, eS42, eS56, eS70, eS84, eS98, eS112, eS126, eS140, eS154, eS167, eS168, eS172, eS188]) 20000 4 [] h0) = true := by kernel_rfl
section
variable {W : World} (h : laidMetH Tryz.prog laidR W)
include h
theorem isS0 : PureC Tryz.prog (Go.Ax.frozen W) (eS0).1 (eS0).2.1 (eS0).2.2 := pure_of_run (pok h (T := []) (.nil)) (by kernel_rfl) runS0
theorem isS1 : PureC Tryz.prog (Go.Ax.frozen W) (eS1).1 (eS1).2.1 (eS1).2.2 := pure_of_run (pok h (T := [eS0]) (.cons (isS0 h) (.nil))) (by kernel_rfl) runS1
theorem isS2 : PureC Tryz.prog (Go.Ax.frozen W) (eS2).1 (eS2).2.1 (eS2).2.2 := pure_of_run (pok h (T := []) (.nil)) (by kernel_rfl) runS2
theorem isS3 : PureC Tryz.prog (Go.Ax.frozen W) (eS3).1 (eS3).2.1 (eS3).2.2 := pure_of_run (pok h (T := [eS2]) (.cons (isS2 h) (.nil))) (by kernel_rfl) runS3
theorem isS4 : PureC Tryz.prog (Go.Ax.frozen W) (eS4).1 (eS4).2.1 (eS4).2.2 := pure_of_run (pok h (T := [eS3]) (.cons (isS3 h) (.nil))) (by kernel_rfl) runS4
theorem isS5 : PureC Tryz.prog (Go.Ax.frozen W) (eS5).1 (eS5).2.1 (eS5).2.2 := pure_of_run (pok h (T := [eS3]) (.cons (isS3 h) (.nil))) (by kernel_rfl) runS5
theorem isS6 : PureC Tryz.prog (Go.Ax.frozen W) (eS6).1 (eS6).2.1 (eS6).2.2 := pure_of_run (pok h (T := [eS4, eS5]) (.cons (isS4 h) (.cons (isS5 h) (.nil)))) (by kernel_rfl) runS6
theorem isS7 : PureC Tryz.prog (Go.Ax.frozen W) (eS7).1 (eS7).2.1 (eS7).2.2 := pure_of_run (pok h (T := [eS3]) (.cons (isS3 h) (.nil))) (by kernel_rfl) runS7
theorem isS8 : PureC Tryz.prog (Go.Ax.frozen W) (eS8).1 (eS8).2.1 (eS8).2.2 := pure_of_run (pok h (T := [eS3]) (.cons (isS3 h) (.nil))) (by kernel_rfl) runS8
theorem isS9 : PureC Tryz.prog (Go.Ax.frozen W) (eS9).1 (eS9).2.1 (eS9).2.2 := pure_of_run (pok h (T := [eS3]) (.cons (isS3 h) (.nil))) (by kernel_rfl) runS9
theorem isS10 : PureC Tryz.prog (Go.Ax.frozen W) (eS10).1 (eS10).2.1 (eS10).2.2 := pure_of_run (pok h (T := [eS8, eS9]) (.cons (isS8 h) (.cons (isS9 h) (.nil)))) (by kernel_rfl) runS10
theorem isS11 : PureC Tryz.prog (Go.Ax.frozen W) (eS11).1 (eS11).2.1 (eS11).2.2 := pure_of_run (pok h (T := [eS3]) (.cons (isS3 h) (.nil))) (by kernel_rfl) runS11
theorem isS12 : PureC Tryz.prog (Go.Ax.frozen W) (eS12).1 (eS12).2.1 (eS12).2.2 := pure_of_run (pok h (T := [eS3, eS4, eS6, eS7, eS8, eS10, eS11]) (.cons (isS3 h) (.cons (isS4 h) (.cons (isS6 h) (.cons (isS7 h) (.cons (isS8 h) (.cons (isS10 h) (.cons (isS11 h) (.nil))))))))) (by kernel_rfl) runS12
theorem isS13 : PureC Tryz.prog (Go.Ax.frozen W) (eS13).1 (eS13).2.1 (eS13).2.2 := pure_of_run (pok h (T := [eS1, eS2, eS3, eS12]) (.cons (isS1 h) (.cons (isS2 h) (.cons (isS3 h) (.cons (isS12 h) (.nil)))))) (by kernel_rfl) runS13
theorem isS14 : PureC Tryz.prog (Go.Ax.frozen W) (eS14).1 (eS14).2.1 (eS14).2.2 := pure_of_run (pok h (T := [eS13]) (.cons (isS13 h) (.nil))) (by kernel_rfl) runS14
theorem isS15 : PureC Tryz.prog (Go.Ax.frozen W) (eS15).1 (eS15).2.1 (eS15).2.2 := pure_of_run (pok h (T := []) (.nil)) (by kernel_rfl) runS15
theorem isS16 : PureC Tryz.prog (Go.Ax.frozen W) (eS16).1 (eS16).2.1 (eS16).2.2 := pure_of_run (pok h (T := [eS15]) (.cons (isS15 h) (.nil))) (by kernel_rfl) runS16
theorem isS17 : PureC Tryz.prog (Go.Ax.frozen W) (eS17).1 (eS17).2.1 (eS17).2.2 := pure_of_run (pok h (T := [eS2]) (.cons (isS2 h) (.nil))) (by kernel_rfl) runS17
theorem isS18 : PureC Tryz.prog (Go.Ax.frozen W) (eS18).1 (eS18).2.1 (eS18).2.2 := pure_of_run (pok h (T := [eS17]) (.cons (isS17 h) (.nil))) (by kernel_rfl) runS18
theorem isS19 : PureC Tryz.prog (Go.Ax.frozen W) (eS19).1 (eS19).2.1 (eS19).2.2 := pure_of_run (pok h (T := [eS17]) (.cons (isS17 h) (.nil))) (by kernel_rfl) runS19
theorem isS20 : PureC Tryz.prog (Go.Ax.frozen W) (eS20).1 (eS20).2.1 (eS20).2.2 := pure_of_run (pok h (T := [eS18, eS19]) (.cons (isS18 h) (.cons (isS19 h) (.nil)))) (by kernel_rfl) runS20
theorem isS21 : PureC Tryz.prog (Go.Ax.frozen W) (eS21).1 (eS21).2.1 (eS21).2.2 := pure_of_run (pok h (T := [eS17]) (.cons (isS17 h) (.nil))) (by kernel_rfl) runS21
theorem isS22 : PureC Tryz.prog (Go.Ax.frozen W) (eS22).1 (eS22).2.1 (eS22).2.2 := pure_of_run (pok h (T := [eS17]) (.cons (isS17 h) (.nil))) (by kernel_rfl) runS22
theorem isS23 : PureC Tryz.prog (Go.Ax.frozen W) (eS23).1 (eS23).2.1 (eS23).2.2 := pure_of_run (pok h (T := [eS17]) (.cons (isS17 h) (.nil))) (by kernel_rfl) runS23
theorem isS24 : PureC Tryz.prog (Go.Ax.frozen W) (eS24).1 (eS24).2.1 (eS24).2.2 := pure_of_run (pok h (T := [eS22, eS23]) (.cons (isS22 h) (.cons (isS23 h) (.nil)))) (by kernel_rfl) runS24
theorem isS25 : PureC Tryz.prog (Go.Ax.frozen W) (eS25).1 (eS25).2.1 (eS25).2.2 := pure_of_run (pok h (T := [eS17]) (.cons (isS17 h) (.nil))) (by kernel_rfl) runS25
theorem isS26 : PureC Tryz.prog (Go.Ax.frozen W) (eS26).1 (eS26).2.1 (eS26).2.2 := pure_of_run (pok h (T := [eS17, eS18, eS20, eS21, eS22, eS24, eS25]) (.cons (isS17 h) (.cons (isS18 h) (.cons (isS20 h) (.cons (isS21 h) (.cons (isS22 h) (.cons (isS24 h) (.cons (isS25 h) (.nil))))))))) (by kernel_rfl) runS26
theorem isS27 : PureC Tryz.prog (Go.Ax.frozen W) (eS27).1 (eS27).2.1 (eS27).2.2 := pure_of_run (pok h (T := [eS2, eS16, eS17, eS26]) (.cons (isS2 h) (.cons (isS16 h) (.cons (isS17 h) (.cons (isS26 h) (.nil)))))) (by kernel_rfl) runS27
theorem isS28 : PureC Tryz.prog (Go.Ax.frozen W) (eS28).1 (eS28).2.1 (eS28).2.2 := pure_of_run (pok h (T := [eS27]) (.cons (isS27 h) (.nil))) (by kernel_rfl) runS28
theorem isS29 : PureC Tryz.prog (Go.Ax.frozen W) (eS29).1 (eS29).2.1 (eS29).2.2 := pure_of_run (pok h (T := []) (.nil)) (by kernel_rfl) runS29
theorem isS30 : PureC Tryz.prog (Go.Ax.frozen W) (eS30).1 (eS30).2.1 (eS30).2.2 := pure_of_run (pok h (T := [eS29]) (.cons (isS29 h) (.nil))) (by kernel_rfl) runS30
theorem isS31 : PureC Tryz.prog (Go.Ax.frozen W) (eS31).1 (eS31).2.1 (eS31).2.2 := pure_of_run (pok h (T := [eS2]) (.cons (isS2 h) (.nil))) (by kernel_rfl) runS31
theorem isS32 : PureC Tryz.prog (Go.Ax.frozen W) (eS32).1 (eS32).2.1 (eS32).2.2 := pure_of_run (pok h (T := [eS31]) (.cons (isS31 h) (.nil))) (by kernel_rfl) runS32
theorem isS33 : PureC Tryz.prog (Go.Ax.frozen W) (eS33).1 (eS33).2.1 (eS33).2.2 := pure_of_run (pok h (T := [eS31]) (.cons (isS31 h) (.nil))) (by kernel_rfl) runS33
theorem isS34 : PureC Tryz.prog (Go.Ax.frozen W) (eS34).1 (eS34).2.1 (eS34).2.2 := pure_of_run (pok h (T := [eS32, eS33]) (.cons (isS32 h) (.cons (isS33 h) (.nil)))) (by kernel_rfl) runS34
theorem isS35 : PureC Tryz.prog (Go.Ax.frozen W) (eS35).1 (eS35).2.1 (eS35).2.2 := pure_of_run (pok h (T := [eS31]) (.cons (isS31 h) (.nil))) (by kernel_rfl) runS35
theorem isS36 : PureC Tryz.prog (Go.Ax.frozen W) (eS36).1 (eS36).2.1 (eS36).2.2 := pure_of_run (pok h (T := [eS31]) (.cons (isS31 h) (.nil))) (by kernel_rfl) runS36
theorem isS37 : PureC Tryz.prog (Go.Ax.frozen W) (eS37).1 (eS37).2.1 (eS37).2.2 := pure_of_run (pok h (T := [eS31]) (.cons (isS31 h) (.nil))) (by kernel_rfl) runS37
theorem isS38 : PureC Tryz.prog (Go.Ax.frozen W) (eS38).1 (eS38).2.1 (eS38).2.2 := pure_of_run (pok h (T := [eS36, eS37]) (.cons (isS36 h) (.cons (isS37 h) (.nil)))) (by kernel_rfl) runS38
theorem isS39 : PureC Tryz.prog (Go.Ax.frozen W) (eS39).1 (eS39).2.1 (eS39).2.2 := pure_of_run (pok h (T := [eS31]) (.cons (isS31 h) (.nil))) (by kernel_rfl) runS39
theorem isS40 : PureC Tryz.prog (Go.Ax.frozen W) (eS40).1 (eS40).2.1 (eS40).2.2 := pure_of_run (pok h (T := [eS31, eS32, eS34, eS35, eS36, eS38, eS39]) (.cons (isS31 h) (.cons (isS32 h) (.cons (isS34 h) (.cons (isS35 h) (.cons (isS36 h) (.cons (isS38 h) (.cons (isS39 h) (.nil))))))))) (by kernel_rfl) runS40
theorem isS41 : PureC Tryz.prog (Go.Ax.frozen W) (eS41).1 (eS41).2.1 (eS41).2.2 := pure_of_run (pok h (T := [eS2, eS30, eS31, eS40]) (.cons (isS2 h) (.cons (isS30 h) (.cons (isS31 h) (.cons (isS40 h) (.nil)))))) (by kernel_rfl) runS41
theorem isS42 : PureC Tryz.prog (Go.Ax.frozen W) (eS42).1 (eS42).2.1 (eS42).2.2 := pure_of_run (pok h (T := [eS41]) (.cons (isS41 h) (.nil))) (by kernel_rfl) runS42
theorem isS43 : PureC Tryz.prog (Go.Ax.frozen W) (eS43).1 (eS43).2.1 (eS43).2.2 := pure_of_run (pok h (T := []) (.nil)) (by kernel_rfl) runS43
theorem isS44 : PureC Tryz.prog (Go.Ax.frozen W) (eS44).1 (eS44).2.1 (eS44).2.2 := pure_of_run (pok h (T := [eS43]) (.cons (isS43 h) (.nil))) (by kernel_rfl) runS44
theorem isS45 : PureC Tryz.prog (Go.Ax.frozen W) (eS45).1 (eS45).2.1 (eS45).2.2 := pure_of_run (pok h (T := [eS2]) (.cons (isS2 h) (.nil))) (by kernel_rfl) runS45
theorem isS46 : PureC Tryz.prog (Go.Ax.frozen W) (eS46).1 (eS46).2.1 (eS46).2.2 := pure_of_run (pok h (T := [eS45]) (.cons (isS45 h) (.nil))) (by kernel_rfl) runS46
theorem isS47 : PureC Tryz.prog (Go.Ax.frozen W) (eS47).1 (eS47).2.1 (eS47).2.2 := pure_of_run (pok h (T := [eS45]) (.cons (isS45 h) (.nil))) (by kernel_rfl) runS47
theorem isS48 : PureC Tryz.prog (Go.Ax.frozen W) (eS48).1 (eS48).2.1 (eS48).2.2 := pure_of_run (pok h (T := [eS46, eS47]) (.cons (isS46 h) (.cons (isS47 h) (.nil)))) (by kernel_rfl) runS48
theorem isS49 : PureC Tryz.prog (Go.Ax.frozen W) (eS49).1 (eS49).2.1 (eS49).2.2 := pure_of_run (pok h (T := [eS45]) (.cons (isS45 h) (.nil))) (by kernel_rfl) runS49
theorem isS50 : PureC Tryz.prog (Go.Ax.frozen W) (eS50).1 (eS50).2.1 (eS50).2.2 := pure_of_run (pok h (T := [eS45]) (.cons (isS45 h) (.nil))) (by kernel_rfl) runS50
theorem isS51 : PureC Tryz.prog (Go.Ax.frozen W) (eS51).1 (eS51).2.1 (eS51).2.2 := pure_of_run (pok h (T := [eS45]) (.cons (isS45 h) (.nil))) (by kernel_rfl) runS51
theorem isS52 : PureC Tryz.prog (Go.Ax.frozen W) (eS52).1 (eS52).2.1 (eS52).2.2 := pure_of_run (pok h (T := [eS50, eS51]) (.cons (isS50 h) (.cons (isS51 h) (.nil)))) (by kernel_rfl) runS52
theorem isS53 : PureC Tryz.prog (Go.Ax.frozen W) (eS53).1 (eS53).2.1 (eS53).2.2 := pure_of_run (pok h (T := [eS45]) (.cons (isS45 h) (.nil))) (by kernel_rfl) runS53
theorem isS54 : PureC Tryz.prog (Go.Ax.frozen W) (eS54).1 (eS54).2.1 (eS54).2.2 := pure_of_run (pok h (T := [eS45, eS46, eS48, eS49, eS50, eS52, eS53]) (.cons (isS45 h) (.cons (isS46 h) (.cons (isS48 h) (.cons (isS49 h) (.cons (isS50 h) (.cons (isS52 h) (.cons (isS53 h) (.nil))))))))) (by kernel_rfl) runS54
theorem isS55 : PureC Tryz.prog (Go.Ax.frozen W) (eS55).1 (eS55).2.1 (eS55).2.2 := pure_of_run (pok h (T := [eS44, eS45, eS54]) (.cons (isS44 h) (.cons (isS45 h) (.cons (isS54 h) (.nil))))) (by kernel_rfl) runS55
theorem isS56 : PureC Tryz.prog (Go.Ax.frozen W) (eS56).1 (eS56).2.1 (eS56).2.2 := pure_of_run (pok h (T := [eS55]) (.cons (isS55 h) (.nil))) (by kernel_rfl) runS56
theorem isS57 : PureC Tryz.prog (Go.Ax.frozen W) (eS57).1 (eS57).2.1 (eS57).2.2 := pure_of_run (pok h (T := []) (.nil)) (by kernel_rfl) runS57
theorem isS58 : PureC Tryz.prog (Go.Ax.frozen W) (eS58).1 (eS58).2.1 (eS58).2.2 := pure_of_run (pok h (T := [eS57]) (.cons (isS57 h) (.nil))) (by kernel_rfl) runS58
theorem isS59 : PureC Tryz.prog (Go.Ax.frozen W) (eS59).1 (eS59).2.1 (eS59).2.2 := pure_of_run (pok h (T := [eS2]) (.cons (isS2 h) (.nil))) (by kernel_rfl) runS59
theorem isS60 : PureC Tryz.prog (Go.Ax.frozen W) (eS60).1 (eS60).2.1 (eS60).2.2 := pure_of_run (pok h (T := [eS59]) (.cons (isS59 h) (.nil))) (by kernel_rfl) runS60
theorem isS61 : PureC Tryz.prog (Go.Ax.frozen W) (eS61).1 (eS61).2.1 (eS61).2.2 := pure_of_run (pok h (T := [eS59]) (.cons (isS59 h) (.nil))) (by kernel_rfl) runS61
theorem isS62 : PureC Tryz.prog (Go.Ax.frozen W) (eS62).1 (eS62).2.1 (eS62).2.2 := pure_of_run (pok h (T := [eS60, eS61]) (.cons (isS60 h) (.cons (isS61 h) (.nil)))) (by kernel_rfl) runS62
theorem isS63 : PureC Tryz.prog (Go.Ax.frozen W) (eS63).1 (eS63).2.1 (eS63).2.2 := pure_of_run (pok h (T := [eS59]) (.cons (isS59 h) (.nil))) (by kernel_rfl) runS63
theorem isS64 : PureC Tryz.prog (Go.Ax.frozen W) (eS64).1 (eS64).2.1 (eS64).2.2 := pure_of_run (pok h (T := [eS59]) (.cons (isS59 h) (.nil))) (by kernel_rfl) runS64
theorem isS65 : PureC Tryz.prog (Go.Ax.frozen W) (eS65).1 (eS65).2.1 (eS65).2.2 := pure_of_run (pok h (T := [eS59]) (.cons (isS59 h) (.nil))) (by kernel_rfl) runS65
theorem isS66 : PureC Tryz.prog (Go.Ax.frozen W) (eS66).1 (eS66).2.1 (eS66).2.2 := pure_of_run (pok h (T := [eS64, eS65]) (.cons (isS64 h) (.cons (isS65 h) (.nil)))) (by kernel_rfl) runS66
theorem isS67 : PureC Tryz.prog (Go.Ax.frozen W) (eS67).1 (eS67).2.1 (eS67).2.2 := pure_of_run (pok h (T := [eS59]) (.cons (isS59 h) (.nil))) (by kernel_rfl) runS67
theorem isS68 : PureC Tryz.prog (Go.Ax.frozen W) (eS68).1 (eS68).2.1 (eS68).2.2 := pure_of_run (pok h (T := [eS59, eS60, eS62, eS63, eS64, eS66, eS67]) (.cons (isS59 h) (.cons (isS60 h) (.cons (isS62 h) (.cons (isS63 h) (.cons (isS64 h) (.cons (isS66 h) (.cons (isS67 h) (.nil))))))))) (by kernel_rfl) runS68
theorem isS69 : PureC Tryz.prog (Go.Ax.frozen W) (eS69).1 (eS69).2.1 (eS69).2.2 := pure_of_run (pok h (T := [eS2, eS58, eS59, eS68]) (.cons (isS2 h) (.cons (isS58 h) (.cons (isS59 h) (.cons (isS68 h) (.nil)))))) (by kernel_rfl) runS69
theorem isS70 : PureC Tryz.prog (Go.Ax.frozen W) (eS70).1 (eS70).2.1 (eS70).2.2 := pure_of_run (pok h (T := [eS69]) (.cons (isS69 h) (.nil))) (by kernel_rfl) runS70
theorem isS71 : PureC Tryz.prog (Go.Ax.frozen W) (eS71).1 (eS71).2.1 (eS71).2.2 := pure_of_run (pok h (T := []) (.nil)) (by kernel_rfl) runS71
theorem isS72 : PureC Tryz.prog (Go.Ax.frozen W) (eS72).1 (eS72).2.1 (eS72).2.2 := pure_of_run (pok h (T := [eS71]) (.cons (isS71 h) (.nil))) (by kernel_rfl) runS72
theorem isS73 : PureC Tryz.prog (Go.Ax.frozen W) (eS73).1 (eS73).2.1 (eS73).2.2 := pure_of_run (pok h (T := [eS2]) (.cons (isS2 h) (.nil))) (by kernel_rfl) runS73
theorem isS74 : PureC Tryz.prog (Go.Ax.frozen W) (eS74).1 (eS74).2.1 (eS74).2.2 := pure_of_run (pok h (T := [eS73]) (.cons (isS73 h) (.nil))) (by kernel_rfl) runS74
theorem isS75 : PureC Tryz.prog (Go.Ax.frozen W) (eS75).1 (eS75).2.1 (eS75).2.2 := pure_of_run (pok h (T := [eS73]) (.cons (isS73 h) (.nil))) (by kernel_rfl) runS75
theorem isS76 : PureC Tryz.prog (Go.Ax.frozen W) (eS76).1 (eS76).2.1 (eS76).2.2 := pure_of_run (pok h (T := [eS74, eS75]) (.cons (isS74 h) (.cons (isS75 h) (.nil)))) (by kernel_rfl) runS76
theorem isS77 : PureC Tryz.prog (Go.Ax.frozen W) (eS77).1 (eS77).2.1 (eS77).2.2 := pure_of_run (pok h (T := [eS73]) (.cons (isS73 h) (.nil))) (by kernel_rfl) runS77
theorem isS78 : PureC Tryz.prog (Go.Ax.frozen W) (eS78).1 (eS78).2.1 (eS78).2.2 := pure_of_run (pok h (T := [eS73]) (.cons (isS73 h) (.nil))) (by kernel_rfl) runS78
theorem isS79 : PureC Tryz.prog (Go.Ax.frozen W) (eS79).1 (eS79).2.1 (eS79).2.2 := pure_of_run (pok h (T := [eS73]) (.cons (isS73 h) (.nil))) (by kernel_rfl) runS79
theorem isS80 : PureC Tryz.prog (Go.Ax.frozen W) (eS80).1 (eS80).2.1 (eS80).2.2 := pure_of_run (pok h (T := [eS78, eS79]) (.cons (isS78 h) (.cons (isS79 h) (.nil)))) (by kernel_rfl) runS80
theorem isS81 : PureC Tryz.prog (Go.Ax.frozen W) (eS81).1 (eS81).2.1 (eS81).2.2 := pure_of_run (pok h (T := [eS73]) (.cons (isS73 h) (.nil))) (by kernel_rfl) runS81
theorem isS82 : PureC Tryz.prog (Go.Ax.frozen W) (eS82).1 (eS82).2.1 (eS82).2.2 := pure_of_run (pok h (T := [eS73, eS74, eS76, eS77, eS78, eS80, eS81]) (.cons (isS73 h) (.cons (isS74 h) (.cons (isS76 h) (.cons (isS77 h) (.cons (isS78 h) (.cons (isS80 h) (.cons (isS81 h) (.nil))))))))) (by kernel_rfl) runS82
theorem isS83 : PureC Tryz.prog (Go.Ax.frozen W) (eS83).1 (eS83).2.1 (eS83).2.2 := pure_of_run (pok h (T := [eS2, eS72, eS73, eS82]) (.cons (isS2 h) (.cons (isS72 h) (.cons (isS73 h) (.cons (isS82 h) (.nil)))))) (by kernel_rfl) runS83
theorem isS84 : PureC Tryz.prog (Go.Ax.frozen W) (eS84).1 (eS84).2.1 (eS84).2.2 := pure_of_run (pok h (T := [eS83]) (.cons (isS83 h) (.nil))) (by kernel_rfl) runS84
theorem isS85 : PureC Tryz.prog (Go.Ax.frozen W) (eS85).1 (eS85).2.1 (eS85).2.2 := pure_of_run (pok h (T := []) (.nil)) (by kernel_rfl) runS85
theorem isS86 : PureC Tryz.prog (Go.Ax.frozen W) (eS86).1 (eS86).2.1 (eS86).2.2 := pure_of_run (pok h (T := [eS85]) (.cons (isS85 h) (.nil))) (by kernel_rfl) runS86
theorem isS87 : PureC Tryz.prog (Go.Ax.frozen W) (eS87).1 (eS87).2.1 (eS87).2.2 := pure_of_run (pok h (T := [eS2]) (.cons (isS2 h) (.nil))) (by kernel_rfl) runS87
theorem isS88 : PureC Tryz.prog (Go.Ax.frozen W) (eS88).1 (eS88).2.1 (eS88).2.2 := pure_of_run (pok h (T := [eS87]) (.cons (isS87 h) (.nil))) (by kernel_rfl) runS88
theorem isS89 : PureC Tryz.prog (Go.Ax.frozen W) (eS89).1 (eS89).2.1 (eS89).2.2 := pure_of_run (pok h (T := [eS87]) (.cons (isS87 h) (.nil))) (by kernel_rfl) runS89
theorem isS90 : PureC Tryz.prog (Go.Ax.frozen W) (eS90).1 (eS90).2.1 (eS90).2.2 := pure_of_run (pok h (T := [eS88, eS89]) (.cons (isS88 h) (.cons (isS89 h) (.nil)))) (by kernel_rfl) runS90
theorem isS91 : PureC Tryz.prog (Go.Ax.frozen W) (eS91).1 (eS91).2.1 (eS91).2.2 := pure_of_run (pok h (T := [eS87]) (.cons (isS87 h) (.nil))) (by kernel_rfl) runS91
theorem isS92 : PureC Tryz.prog (Go.Ax.frozen W) (eS92).1 (eS92).2.1 (eS92).2.2 := pure_of_run (pok h (T := [eS87]) (.cons (isS87 h) (.nil))) (by kernel_rfl) runS92
theorem isS93 : PureC Tryz.prog (Go.Ax.frozen W) (eS93).1 (eS93).2.1 (eS93).2.2 := pure_of_run (pok h (T := [eS87]) (.cons (isS87 h) (.nil))) (by kernel_rfl) runS93
theorem isS94 : PureC Tryz.prog (Go.Ax.frozen W) (eS94).1 (eS94).2.1 (eS94).2.2 := pure_of_run (pok h (T := [eS92, eS93]) (.cons (isS92 h) (.cons (isS93 h) (.nil)))) (by kernel_rfl) runS94
theorem isS95 : PureC Tryz.prog (Go.Ax.frozen W) (eS95).1 (eS95).2.1 (eS95).2.2 := pure_of_run (pok h (T := [eS87]) (.cons (isS87 h) (.nil))) (by kernel_rfl) runS95
theorem isS96 : PureC Tryz.prog (Go.Ax.frozen W) (eS96).1 (eS96).2.1 (eS96).2.2 := pure_of_run (pok h (T := [eS87, eS88, eS90, eS91, eS92, eS94, eS95]) (.cons (isS87 h) (.cons (isS88 h) (.cons (isS90 h) (.cons (isS91 h) (.cons (isS92 h) (.cons (isS94 h) (.cons (isS95 h) (.nil))))))))) (by kernel_rfl) runS96
theorem isS97 : PureC Tryz.prog (Go.Ax.frozen W) (eS97).1 (eS97).2.1 (eS97).2.2 := pure_of_run (pok h (T := [eS2, eS86, eS87, eS96]) (.cons (isS2 h) (.cons (isS86 h) (.cons (isS87 h) (.cons (isS96 h) (.nil)))))) (by kernel_rfl) runS97
theorem isS98 : PureC Tryz.prog (Go.Ax.frozen W) (eS98).1 (eS98).2.1 (eS98).2.2 := pure_of_run (pok h (T := [eS97]) (.cons (isS97 h) (.nil))) (by kernel_rfl) runS98
theorem isS99 : PureC Tryz.prog (Go.Ax.frozen W) (eS99).1 (eS99).2.1 (eS99).2.2 := pure_of_run (pok h (T := []) (.nil)) (by kernel_rfl) runS99
theorem isS100 : PureC Tryz.prog (Go.Ax.frozen W) (eS100).1 (eS100).2.1 (eS100).2.2 := pure_of_run (pok h (T := [eS99]) (.cons (isS99 h) (.nil))) (by kernel_rfl) runS100
theorem isS101 : PureC Tryz.prog (Go.Ax.frozen W) (eS101).1 (eS101).2.1 (eS101).2.2 := pure_of_run (pok h (T := [eS2]) (.cons (isS2 h) (.nil))) (by kernel_rfl) runS101
theorem isS102 : PureC Tryz.prog (Go.Ax.frozen W) (eS102).1 (eS102).2.1 (eS102).2.2 := pure_of_run (pok h (T := [eS101]) (.cons (isS101 h) (.nil))) (by kernel_rfl) runS102
theorem isS103 : PureC Tryz.prog (Go.Ax.frozen W) (eS103).1 (eS103).2.1 (eS103).2.2 := pure_of_run (pok h (T := [eS101]) (.cons (isS101 h) (.nil))) (by kernel_rfl) runS103
theorem isS104 : PureC Tryz.prog (Go.Ax.frozen W) (eS104).1 (eS104).2.1 (eS104).2.2 := pure_of_run (pok h (T := [eS102, eS103]) (.cons (isS102 h) (.cons (isS103 h) (.nil)))) (by kernel_rfl) runS104
theorem isS105 : PureC Tryz.prog (Go.Ax.frozen W) (eS105).1 (eS105).2.1 (eS105).2.2 := pure_of_run (pok h (T := [eS101]) (.cons (isS101 h) (.nil))) (by kernel_rfl) runS105
theorem isS106 : PureC Tryz.prog (Go.Ax.frozen W) (eS106).1 (eS106).2.1 (eS106).2.2 := pure_of_run (pok h (T := [eS101]) (.cons (isS101 h) (.nil))) (by kernel_rfl) runS106
theorem isS107 : PureC Tryz.prog (Go.Ax.frozen W) (eS107).1 (eS107).2.1 (eS107).2.2 := pure_of_run (pok h (T := [eS101]) (.cons (isS101 h) (.nil))) (by kernel_rfl) runS107
theorem isS108 : PureC Tryz.prog (Go.Ax.frozen W) (eS108).1 (eS108).2.1 (eS108).2.2 := pure_of_run (pok h (T := [eS106, eS107]) (.cons (isS106 h) (.cons (isS107 h) (.nil)))) (by kernel_rfl) runS108
theorem isS109 : PureC Tryz.prog (Go.Ax.frozen W) (eS109).1 (eS109).2.1 (eS109).2.2 := pure_of_run (pok h (T := [eS101]) (.cons (isS101 h) (.nil))) (by kernel_rfl) runS109
theorem isS110 : PureC Tryz.prog (Go.Ax.frozen W) (eS110).1 (eS110).2.1 (eS110).2.2 := pure_of_run (pok h (T := [eS101, eS102, eS104, eS105, eS106, eS108, eS109]) (.cons (isS101 h) (.cons (isS102 h) (.cons (isS104 h) (.cons (isS105 h) (.cons (isS106 h) (.cons (isS108 h) (.cons (isS109 h) (.nil))))))))) (by kernel_rfl) runS110
theorem isS111 : PureC Tryz.prog (Go.Ax.frozen W) (eS111).1 (eS111).2.1 (eS111).2.2 := pure_of_run (pok h (T := [eS100, eS101, eS110]) (.cons (isS100 h) (.cons (isS101 h) (.cons (isS110 h) (.nil))))) (by kernel_rfl) runS111
theorem isS112 : PureC Tryz.prog (Go.Ax.frozen W) (eS112).1 (eS112).2.1 (eS112).2.2 := pure_of_run (pok h (T := [eS111]) (.cons (isS111 h) (.nil))) (by kernel_rfl) runS112
theorem isS113 : PureC Tryz.prog (Go.Ax.frozen W) (eS113).1 (eS113).2.1 (eS113).2.2 := pure_of_run (pok h (T := []) (.nil)) (by kernel_rfl) runS113
theorem isS114 : PureC Tryz.prog (Go.Ax.frozen W) (eS114).1 (eS114).2.1 (eS114).2.2 := pure_of_run (pok h (T := [eS113]) (.cons (isS113 h) (.nil))) (by kernel_rfl) runS114
theorem isS115 : PureC Tryz.prog (Go.Ax.frozen W) (eS115).1 (eS115).2.1 (eS115).2.2 := pure_of_run (pok h (T := [eS2]) (.cons (isS2 h) (.nil))) (by kernel_rfl) runS115
theorem isS116 : PureC Tryz.prog (Go.Ax.frozen W) (eS116).1 (eS116).2.1 (eS116).2.2 := pure_of_run (pok h (T := [eS115]) (.cons (isS115 h) (.nil))) (by kernel_rfl) runS116
theorem isS117 : PureC Tryz.prog (Go.Ax.frozen W) (eS117).1 (eS117).2.1 (eS117).2.2 := pure_of_run (pok h (T := [eS115]) (.cons (isS115 h) (.nil))) (by kernel_rfl) runS117
theorem isS118 : PureC Tryz.prog (Go.Ax.frozen W) (eS118).1 (eS118).2.1 (eS118).2.2 := pure_of_run (pok h (T := [eS116, eS117]) (.cons (isS116 h) (.cons (isS117 h) (.nil)))) (by kernel_rfl) runS118
theorem isS119 : PureC Tryz.prog (Go.Ax.frozen W) (eS119).1 (eS119).2.1 (eS119).2.2 := pure_of_run (pok h (T := [eS115]) (.cons (isS115 h) (.nil))) (by kernel_rfl) runS119
theorem isS120 : PureC Tryz.prog (Go.Ax.frozen W) (eS120).1 (eS120).2.1 (eS120).2.2 := pure_of_run (pok h (T := [eS115]) (.cons (isS115 h) (.nil))) (by kernel_rfl) runS120
theorem isS121 : PureC Tryz.prog (Go.Ax.frozen W) (eS121).1 (eS121).2.1 (eS121).2.2 := pure_of_run (pok h (T := [eS115]) (.cons (isS115 h) (.nil))) (by kernel_rfl) runS121
theorem isS122 : PureC Tryz.prog (Go.Ax.frozen W) (eS122).1 (eS122).2.1 (eS122).2.2 := pure_of_run (pok h (T := [eS120, eS121]) (.cons (isS120 h) (.cons (isS121 h) (.nil)))) (by kernel_rfl) runS122
theorem isS123 : PureC Tryz.prog (Go.Ax.frozen W) (eS123).1 (eS123).2.1 (eS123).2.2 := pure_of_run (pok h (T := [eS115]) (.cons (isS115 h) (.nil))) (by kernel_rfl) runS123
theorem isS124 : PureC Tryz.prog (Go.Ax.frozen W) (eS124).1 (eS124).2.1 (eS124).2.2 := pure_of_run (pok h (T := [eS115, eS116, eS118, eS119, eS120, eS122, eS123]) (.cons (isS115 h) (.cons (isS116 h) (.cons (isS118 h) (.cons (isS119 h) (.cons (isS120 h) (.cons (isS122 h) (.cons (isS123 h) (.nil))))))))) (by kernel_rfl) runS124
theorem isS125 : PureC Tryz.prog (Go.Ax.frozen W) (eS125).1 (eS125).2.1 (eS125).2.2 := pure_of_run (pok h (T := [eS2, eS114, eS115, eS124]) (.cons (isS2 h) (.cons (isS114 h) (.cons (isS115 h) (.cons (isS124 h) (.nil)))))) (by kernel_rfl) runS125
theorem isS126 : PureC Tryz.prog (Go.Ax.frozen W) (eS126).1 (eS126).2.1 (eS126).2.2 := pure_of_run (pok h (T := [eS125]) (.cons (isS125 h) (.nil))) (by kernel_rfl) runS126
theorem isS127 : PureC Tryz.prog (Go.Ax.frozen W) (eS127).1 (eS127).2.1 (eS127).2.2 := pure_of_run (pok h (T := []) (.nil)) (by kernel_rfl) runS127
theorem isS128 : PureC Tryz.prog (Go.Ax.frozen W) (eS128).1 (eS128).2.1 (eS128).2.2 := pure_of_run (pok h (T := [eS127]) (.cons (isS127 h) (.nil))) (by kernel_rfl) runS128
theorem isS129 : PureC Tryz.prog (Go.Ax.frozen W) (eS129).1 (eS129).2.1 (eS129).2.2 := pure_of_run (pok h (T := [eS2]) (.cons (isS2 h) (.nil))) (by kernel_rfl) runS129
theorem isS130 : PureC Tryz.prog (Go.Ax.frozen W) (eS130).1 (eS130).2.1 (eS130).2.2 := pure_of_run (pok h (T := [eS129]) (.cons (isS129 h) (.nil))) (by kernel_rfl) runS130
theorem isS131 : PureC Tryz.prog (Go.Ax.frozen W) (eS131).1 (eS131).2.1 (eS131).2.2 := pure_of_run (pok h (T := [eS129]) (.cons (isS129 h) (.nil))) (by kernel_rfl) runS131
theorem isS132 : PureC Tryz.prog (Go.Ax.frozen W) (eS132).1 (eS132).2.1 (eS132).2.2 := pure_of_run (pok h (T := [eS130, eS131]) (.cons (isS130 h) (.cons (isS131 h) (.nil)))) (by kernel_rfl) runS132
theorem isS133 : PureC Tryz.prog (Go.Ax.frozen W) (eS133).1 (eS133).2.1 (eS133).2.2 := pure_of_run (pok h (T := [eS129]) (.cons (isS129 h) (.nil))) (by kernel_rfl) runS133
theorem isS134 : PureC Tryz.prog (Go.Ax.frozen W) (eS134).1 (eS134).2.1 (eS134).2.2 := pure_of_run (pok h (T := [eS129]) (.cons (isS129 h) (.nil))) (by kernel_rfl) runS134
theorem isS135 : PureC Tryz.prog (Go.Ax.frozen W) (eS135).1 (eS135).2.1 (eS135).2.2 := pure_of_run (pok h (T := [eS129]) (.cons (isS129 h) (.nil))) (by kernel_rfl) runS135
theorem isS136 : PureC Tryz.prog (Go.Ax.frozen W) (eS136).1 (eS136).2.1 (eS136).2.2 := pure_of_run (pok h (T := [eS134, eS135]) (.cons (isS134 h) (.cons (isS135 h) (.nil)))) (by kernel_rfl) runS136
theorem isS137 : PureC Tryz.prog (Go.Ax.frozen W) (eS137).1 (eS137).2.1 (eS137).2.2 := pure_of_run (pok h (T := [eS129]) (.cons (isS129 h) (.nil))) (by kernel_rfl) runS137
theorem isS138 : PureC Tryz.prog (Go.Ax.frozen W) (eS138).1 (eS138).2.1 (eS138).2.2 := pure_of_run (pok h (T := [eS129, eS130, eS132, eS133, eS134, eS136, eS137]) (.cons (isS129 h) (.cons (isS130 h) (.cons (isS132 h) (.cons (isS133 h) (.cons (isS134 h) (.cons (isS136 h) (.cons (isS137 h) (.nil))))))))) (by kernel_rfl) runS138
theorem isS139 : PureC Tryz.prog (Go.Ax.frozen W) (eS139).1 (eS139).2.1 (eS139).2.2 := pure_of_run (pok h (T := [eS2, eS128, eS129, eS138]) (.cons (isS2 h) (.cons (isS128 h) (.cons (isS129 h) (.cons (isS138 h) (.nil)))))) (by kernel_rfl) runS139
theorem isS140 : PureC Tryz.prog (Go.Ax.frozen W) (eS140).1 (eS140).2.1 (eS140).2.2 := pure_of_run (pok h (T := [eS139]) (.cons (isS139 h) (.nil))) (by kernel_rfl) runS140
theorem isS141 : PureC Tryz.prog (Go.Ax.frozen W) (eS141).1 (eS141).2.1 (eS141).2.2 := pure_of_run (pok h (T := []) (.nil)) (by kernel_rfl) runS141
theorem isS142 : PureC Tryz.prog (Go.Ax.frozen W) (eS142).1 (eS142).2.1 (eS142).2.2 := pure_of_run (pok h (T := [eS141]) (.cons (isS141 h) (.nil))) (by kernel_rfl) runS142
theorem isS143 : PureC Tryz.prog (Go.Ax.frozen W) (eS143).1 (eS143).2.1 (eS143).2.2 := pure_of_run (pok h (T := [eS2]) (.cons (isS2 h) (.nil))) (by kernel_rfl) runS143
theorem isS144 : PureC Tryz.prog (Go.Ax.frozen W) (eS144).1 (eS144).2.1 (eS144).2.2 := pure_of_run (pok h (T := [eS143]) (.cons (isS143 h) (.nil))) (by kernel_rfl) runS144
theorem isS145 : PureC Tryz.prog (Go.Ax.frozen W) (eS145).1 (eS145).2.1 (eS145).2.2 := pure_of_run (pok h (T := [eS143]) (.cons (isS143 h) (.nil))) (by kernel_rfl) runS145
theorem isS146 : PureC Tryz.prog (Go.Ax.frozen W) (eS146).1 (eS146).2.1 (eS146).2.2 := pure_of_run (pok h (T := [eS144, eS145]) (.cons (isS144 h) (.cons (isS145 h) (.nil)))) (by kernel_rfl) runS146
theorem isS147 : PureC Tryz.prog (Go.Ax.frozen W) (eS147).1 (eS147).2.1 (eS147).2.2 := pure_of_run (pok h (T := [eS143]) (.cons (isS143 h) (.nil))) (by kernel_rfl) runS147
theorem isS148 : PureC Tryz.prog (Go.Ax.frozen W) (eS148).1 (eS148).2.1 (eS148).2.2 := pure_of_run (pok h (T := [eS143]) (.cons (isS143 h) (.nil))) (by kernel_rfl) runS148
theorem isS149 : PureC Tryz.prog (Go.Ax.frozen W) (eS149).1 (eS149).2.1 (eS149).2.2 := pure_of_run (pok h (T := [eS143]) (.cons (isS143 h) (.nil))) (by kernel_rfl) runS149
theorem isS150 : PureC Tryz.prog (Go.Ax.frozen W) (eS150).1 (eS150).2.1 (eS150).2.2 := pure_of_run (pok h (T := [eS148, eS149]) (.cons (isS148 h) (.cons (isS149 h) (.nil)))) (by kernel_rfl) runS150
theorem isS151 : PureC Tryz.prog (Go.Ax.frozen W) (eS151).1 (eS151).2.1 (eS151).2.2 := pure_of_run (pok h (T := [eS143]) (.cons (isS143 h) (.nil))) (by kernel_rfl) runS151
theorem isS152 : PureC Tryz.prog (Go.Ax.frozen W) (eS152).1 (eS152).2.1 (eS152).2.2 := pure_of_run (pok h (T := [eS143, eS144, eS146, eS147, eS148, eS150, eS151]) (.cons (isS143 h) (.cons (isS144 h) (.cons (isS146 h) (.cons (isS147 h) (.cons (isS148 h) (.cons (isS150 h) (.cons (isS151 h) (.nil))))))))) (by kernel_rfl) runS152
theorem isS153 : PureC Tryz.prog (Go.Ax.frozen W) (eS153).1 (eS153).2.1 (eS153).2.2 := pure_of_run (pok h (T := [eS142, eS143, eS152]) (.cons (isS142 h) (.cons (isS143 h) (.cons (isS152 h) (.nil))))) (by kernel_rfl) runS153
theorem isS154 : PureC Tryz.prog (Go.Ax.frozen W) (eS154).1 (eS154).2.1 (eS154).2.2 := pure_of_run (pok h (T := [eS153]) (.cons (isS153 h) (.nil))) (by kernel_rfl) runS154
theorem isS155 : PureC Tryz.prog (Go.Ax.frozen W) (eS155).1 (eS155).2.1 (eS155).2.2 := pure_of_run (pok h (T := []) (.nil)) (by kernel_rfl) runS155
theorem isS156 : PureC Tryz.prog (Go.Ax.frozen W) (eS156).1 (eS156).2.1 (eS156).2.2 := pure_of_run (pok h (T := [eS155]) (.cons (isS155 h) (.nil))) (by kernel_rfl) runS156
theorem isS157 : PureC Tryz.prog (Go.Ax.frozen W) (eS157).1 (eS157).2.1 (eS157).2.2 := pure_of_run (pok h (T := [eS2]) (.cons (isS2 h) (.nil))) (by kernel_rfl) runS157
theorem isS158 : PureC Tryz.prog (Go.Ax.frozen W) (eS158).1 (eS158).2.1 (eS158).2.2 := pure_of_run (pok h (T := [eS157]) (.cons (isS157 h) (.nil))) (by kernel_rfl) runS158
theorem isS159 : PureC Tryz.prog (Go.Ax.frozen W) (eS159).1 (eS159).2.1 (eS159).2.2 := pure_of_run (pok h (T := [eS157]) (.cons (isS157 h) (.nil))) (by kernel_rfl) runS159
theorem isS160 : PureC Tryz.prog (Go.Ax.frozen W) (eS160).1 (eS160).2.1 (eS160).2.2 := pure_of_run (pok h (T := [eS158, eS159]) (.cons (isS158 h) (.cons (isS159 h) (.nil)))) (by kernel_rfl) runS160
theorem isS161 : PureC Tryz.prog (Go.Ax.frozen W) (eS161).1 (eS161).2.1 (eS161).2.2 := pure_of_run (pok h (T := [eS157]) (.cons (isS157 h) (.nil))) (by kernel_rfl) runS161
theorem isS162 : PureC Tryz.prog (Go.Ax.frozen W) (eS162).1 (eS162).2.1 (eS162).2.2 := pure_of_run (pok h (T := [eS157]) (.cons (isS157 h) (.nil))) (by kernel_rfl) runS162
theorem isS163 : PureC Tryz.prog (Go.Ax.frozen W) (eS163).1 (eS163).2.1 (eS163).2.2 := pure_of_run (pok h (T := [eS157]) (.cons (isS157 h) (.nil))) (by kernel_rfl) runS163
theorem isS164 : PureC Tryz.prog (Go.Ax.frozen W) (eS164).1 (eS164).2.1 (eS164).2.2 := pure_of_run (pok h (T := [eS162, eS163]) (.cons (isS162 h) (.cons (isS163 h) (.nil)))) (by kernel_rfl) runS164
theorem isS165 : PureC Tryz.prog (Go.Ax.frozen W) (eS165).1 (eS165).2.1 (eS165).2.2 := pure_of_run (pok h (T := [eS157]) (.cons (isS157 h) (.nil))) (by kernel_rfl) runS165
theorem isS166 : PureC Tryz.prog (Go.Ax.frozen W) (eS166).1 (eS166).2.1 (eS166).2.2 := pure_of_run (pok h (T := [eS157, eS158, eS160, eS161, eS162, eS164, eS165]) (.cons (isS157 h) (.cons (isS158 h) (.cons (isS160 h) (.cons (isS161 h) (.cons (isS162 h) (.cons (isS164 h) (.cons (isS165 h) (.nil))))))))) (by kernel_rfl) runS166
theorem isS167 : PureC Tryz.prog (Go.Ax.frozen W) (eS167).1 (eS167).2.1 (eS167).2.2 := pure_of_run (pok h (T := [eS156, eS157, eS166]) (.cons (isS156 h) (.cons (isS157 h) (.cons (isS166 h) (.nil))))) (by kernel_rfl) runS167
theorem isS168 : PureC Tryz.prog (Go.Ax.frozen W) (eS168).1 (eS168).2.1 (eS168).2.2 := pure_of_run (pok h (T := []) (.nil)) (by kernel_rfl) runS168
theorem isS169 : PureC Tryz.prog (Go.Ax.frozen W) (eS169).1 (eS169).2.1 (eS169).2.2 := pure_of_run (pok h (T := []) (.nil)) (by kernel_rfl) runS169
theorem isS170 : PureC Tryz.prog (Go.Ax.frozen W) (eS170).1 (eS170).2.1 (eS170).2.2 := pure_of_run (pok h (T := [eS169]) (.cons (isS169 h) (.nil))) (by kernel_rfl) runS170
theorem isS171 : PureC Tryz.prog (Go.Ax.frozen W) (eS171).1 (eS171).2.1 (eS171).2.2 := pure_of_run (pok h (T := [eS170]) (.cons (isS170 h) (.nil))) (by kernel_rfl) runS171
theorem isS172 : PureC Tryz.prog (Go.Ax.frozen W) (eS172).1 (eS172).2.1 (eS172).2.2 := pure_of_run (pok h (T := [eS171]) (.cons (isS171 h) (.nil))) (by kernel_rfl) runS172
theorem isS173 : PureC Tryz.prog (Go.Ax.frozen W) (eS173).1 (eS173).2.1 (eS173).2.2 := pure_of_run (pok h (T := []) (.nil)) (by kernel_rfl) runS173
theorem isS174 : PureC Tryz.prog (Go.Ax.frozen W) (eS174).1 (eS174).2.1 (eS174).2.2 := pure_of_run (pok h (T := [eS173]) (.cons (isS173 h) (.nil))) (by kernel_rfl) runS174
theorem isS175 : PureC Tryz.prog (Go.Ax.frozen W) (eS175).1 (eS175).2.1 (eS175).2.2 := pure_of_run (pok h (T := [eS2]) (.cons (isS2 h) (.nil))) (by kernel_rfl) runS175
theorem isS176 : PureC Tryz.prog (Go.Ax.frozen W) (eS176).1 (eS176).2.1 (eS176).2.2 := pure_of_run (pok h (T := [eS175]) (.cons (isS175 h) (.nil))) (by kernel_rfl) runS176
theorem isS177 : PureC Tryz.prog (Go.Ax.frozen W) (eS177).1 (eS177).2.1 (eS177).2.2 := pure_of_run (pok h (T := [eS175]) (.cons (isS175 h) (.nil))) (by kernel_rfl) runS177
theorem isS178 : PureC Tryz.prog (Go.Ax.frozen W) (eS178).1 (eS178).2.1 (eS178).2.2 := pure_of_run (pok h (T := [eS176, eS177]) (.cons (isS176 h) (.cons (isS177 h) (.nil)))) (by kernel_rfl) runS178
theorem isS179 : PureC Tryz.prog (Go.Ax.frozen W) (eS179).1 (eS179).2.1 (eS179).2.2 := pure_of_run (pok h (T := [eS175]) (.cons (isS175 h) (.nil))) (by kernel_rfl) runS179
theorem isS180 : PureC Tryz.prog (Go.Ax.frozen W) (eS180).1 (eS180).2.1 (eS180).2.2 := pure_of_run (pok h (T := [eS175]) (.cons (isS175 h) (.nil))) (by kernel_rfl) runS180
theorem isS181 : PureC Tryz.prog (Go.Ax.frozen W) (eS181).1 (eS181).2.1 (eS181).2.2 := pure_of_run (pok h (T := [eS175]) (.cons (isS175 h) (.nil))) (by kernel_rfl) runS181
theorem isS182 : PureC Tryz.prog (Go.Ax.frozen W) (eS182).1 (eS182).2.1 (eS182).2.2 := pure_of_run (pok h (T := [eS175]) (.cons (isS175 h) (.nil))) (by kernel_rfl) runS182
theorem isS183 : PureC Tryz.prog (Go.Ax.frozen W) (eS183).1 (eS183).2.1 (eS183).2.2 := pure_of_run (pok h (T := [eS181, eS182]) (.cons (isS181 h) (.cons (isS182 h) (.nil)))) (by kernel_rfl) runS183
theorem isS184 : PureC Tryz.prog (Go.Ax.frozen W) (eS184).1 (eS184).2.1 (eS184).2.2 := pure_of_run (pok h (T := [eS175]) (.cons (isS175 h) (.nil))) (by kernel_rfl) runS184
theorem isS185 : PureC Tryz.prog (Go.Ax.frozen W) (eS185).1 (eS185).2.1 (eS185).2.2 := pure_of_run (pok h (T := [eS175, eS176, eS178, eS179, eS180, eS181, eS183, eS184]) (.cons (isS175 h) (.cons (isS176 h) (.cons (isS178 h) (.cons (isS179 h) (.cons (isS180 h) (.cons (isS181 h) (.cons (isS183 h) (.cons (isS184 h) (.nil)))))))))) (by kernel_rfl) runS185
theorem isS186 : PureC Tryz.prog (Go.Ax.frozen W) (eS186).1 (eS186).2.1 (eS186).2.2 := pure_of_run (pok h (T := [eS174, eS175, eS185]) (.cons (isS174 h) (.cons (isS175 h) (.cons (isS185 h) (.nil))))) (by kernel_rfl) runS186
theorem isS187 : PureC Tryz.prog (Go.Ax.frozen W) (eS187).1 (eS187).2.1 (eS187).2.2 := pure_of_run (pok h (T := [eS186]) (.cons (isS186 h) (.nil))) (by kernel_rfl) runS187
theorem isS188 : PureC Tryz.prog (Go.Ax.frozen W) (eS188).1 (eS188).2.1 (eS188).2.2 := pure_of_run (pok h (T := [eS187]) (.cons (isS187 h) (.nil))) (by kernel_rfl) runS188
theorem tabsS : AllPure Tryz.prog (Go.Ax.frozen W) [eS14, eS28, eS42, eS56, eS70, eS84, eS98, eS112, eS126, eS140, eS154, eS167, eS168, eS172, eS188] := .cons (isS14 h) (.cons (isS28 h) (.cons (isS42 h) (.cons (isS56 h) (.cons (isS70 h) (.cons (isS84 h) (.cons (isS98 h) (.cons (isS112 h) (.cons (isS126 h) (.cons (isS140 h) (.cons (isS154 h) (.cons (isS167 h) (.cons (isS168 h) (.cons (isS172 h) (.cons (isS188 h) (.nil)))))))))))))))
end
abbrev tabLS : Tab := [eS14, eS28, eS42, eS56, eS70, eS84, eS98, eS112, eS126, eS140, eS154, eS167, eS168, eS172, eS188]
end Go.Proofs.YtciljbmodhjpiaaGreatDoor
