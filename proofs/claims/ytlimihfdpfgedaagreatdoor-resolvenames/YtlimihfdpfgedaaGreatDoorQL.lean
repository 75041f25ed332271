/- ResolveNames: the law's own run, and that all told calls are right. -/
import Derived.Test.YtlimihfdpfgedaaGreatDoorQR0
import Derived.Test.YtlimihfdpfgedaaGreatDoorQR1
import Derived.Test.YtlimihfdpfgedaaGreatDoorQR2
import Derived.Test.YtlimihfdpfgedaaGreatDoorQR3
import Derived.Test.YtlimihfdpfgedaaGreatDoorQR4
import Derived.Test.YtlimihfdpfgedaaGreatDoorQR5
import Derived.Test.YtlimihfdpfgedaaGreatDoorQR6
import Derived.Test.YtlimihfdpfgedaaGreatDoorQR7
import Derived.Test.YtlimihfdpfgedaaGreatDoorQR8
import Derived.Test.YtlimihfdpfgedaaGreatDoorQR9
import Derived.Test.YtlimihfdpfgedaaGreatDoorQR10
import Derived.Test.YtlimihfdpfgedaaGreatDoorQR11
import Derived.Test.YtlimihfdpfgedaaGreatDoorQR12
import Derived.Test.YtlimihfdpfgedaaGreatDoorQR13
import Derived.Test.YtlimihfdpfgedaaGreatDoorQR14
namespace Go.Proofs.YtlimihfdpfgedaaGreatDoor
open Go.Ax
theorem runQ : okTrue (call Tryz.prog (cx [eQ34, eQ65, eQ69, eQ73, eQ116, eQ124, eQ150, eQ154, eQ158, eQ185, eQ186, eQ188, eQ218, eQ221]) 20000 5 [] h0) = true := by kernel_rfl
section
variable {W : World} (h : laidMetH Tryz.prog laidR W)
include h
theorem isQ0 : PureC Tryz.prog (Go.Ax.frozen W) (eQ0).1 (eQ0).2.1 (eQ0).2.2 := pure_of_run (pok h (T := []) (.nil)) (by kernel_rfl) runQ0
theorem isQ1 : PureC Tryz.prog (Go.Ax.frozen W) (eQ1).1 (eQ1).2.1 (eQ1).2.2 := pure_of_run (pok h (T := []) (.nil)) (by kernel_rfl) runQ1
theorem isQ2 : PureC Tryz.prog (Go.Ax.frozen W) (eQ2).1 (eQ2).2.1 (eQ2).2.2 := pure_of_run (pok h (T := [eQ1]) (.cons (isQ1 h) (.nil))) (by kernel_rfl) runQ2
theorem isQ3 : PureC Tryz.prog (Go.Ax.frozen W) (eQ3).1 (eQ3).2.1 (eQ3).2.2 := pure_of_run (pok h (T := [eQ2]) (.cons (isQ2 h) (.nil))) (by kernel_rfl) runQ3
theorem isQ4 : PureC Tryz.prog (Go.Ax.frozen W) (eQ4).1 (eQ4).2.1 (eQ4).2.2 := pure_of_run (pok h (T := []) (.nil)) (by kernel_rfl) runQ4
theorem isQ5 : PureC Tryz.prog (Go.Ax.frozen W) (eQ5).1 (eQ5).2.1 (eQ5).2.2 := pure_of_run (pok h (T := [eQ4]) (.cons (isQ4 h) (.nil))) (by kernel_rfl) runQ5
theorem isQ6 : PureC Tryz.prog (Go.Ax.frozen W) (eQ6).1 (eQ6).2.1 (eQ6).2.2 := pure_of_run (pok h (T := [eQ5]) (.cons (isQ5 h) (.nil))) (by kernel_rfl) runQ6
theorem isQ7 : PureC Tryz.prog (Go.Ax.frozen W) (eQ7).1 (eQ7).2.1 (eQ7).2.2 := pure_of_run (pok h (T := [eQ2]) (.cons (isQ2 h) (.nil))) (by kernel_rfl) runQ7
theorem isQ8 : PureC Tryz.prog (Go.Ax.frozen W) (eQ8).1 (eQ8).2.1 (eQ8).2.2 := pure_of_run (pok h (T := []) (.nil)) (by kernel_rfl) runQ8
theorem isQ9 : PureC Tryz.prog (Go.Ax.frozen W) (eQ9).1 (eQ9).2.1 (eQ9).2.2 := pure_of_run (pok h (T := [eQ8]) (.cons (isQ8 h) (.nil))) (by kernel_rfl) runQ9
theorem isQ10 : PureC Tryz.prog (Go.Ax.frozen W) (eQ10).1 (eQ10).2.1 (eQ10).2.2 := pure_of_run (pok h (T := [eQ9]) (.cons (isQ9 h) (.nil))) (by kernel_rfl) runQ10
theorem isQ11 : PureC Tryz.prog (Go.Ax.frozen W) (eQ11).1 (eQ11).2.1 (eQ11).2.2 := pure_of_run (pok h (T := []) (.nil)) (by kernel_rfl) runQ11
theorem isQ12 : PureC Tryz.prog (Go.Ax.frozen W) (eQ12).1 (eQ12).2.1 (eQ12).2.2 := pure_of_run (pok h (T := []) (.nil)) (by kernel_rfl) runQ12
theorem isQ13 : PureC Tryz.prog (Go.Ax.frozen W) (eQ13).1 (eQ13).2.1 (eQ13).2.2 := pure_of_run (pok h (T := [eQ5]) (.cons (isQ5 h) (.nil))) (by kernel_rfl) runQ13
theorem isQ14 : PureC Tryz.prog (Go.Ax.frozen W) (eQ14).1 (eQ14).2.1 (eQ14).2.2 := pure_of_run (pok h (T := [eQ5]) (.cons (isQ5 h) (.nil))) (by kernel_rfl) runQ14
theorem isQ15 : PureC Tryz.prog (Go.Ax.frozen W) (eQ15).1 (eQ15).2.1 (eQ15).2.2 := pure_of_run (pok h (T := []) (.nil)) (by kernel_rfl) runQ15
theorem isQ16 : PureC Tryz.prog (Go.Ax.frozen W) (eQ16).1 (eQ16).2.1 (eQ16).2.2 := pure_of_run (pok h (T := []) (.nil)) (by kernel_rfl) runQ16
theorem isQ17 : PureC Tryz.prog (Go.Ax.frozen W) (eQ17).1 (eQ17).2.1 (eQ17).2.2 := pure_of_run (pok h (T := [eQ5]) (.cons (isQ5 h) (.nil))) (by kernel_rfl) runQ17
theorem isQ18 : PureC Tryz.prog (Go.Ax.frozen W) (eQ18).1 (eQ18).2.1 (eQ18).2.2 := pure_of_run (pok h (T := [eQ9]) (.cons (isQ9 h) (.nil))) (by kernel_rfl) runQ18
theorem isQ19 : PureC Tryz.prog (Go.Ax.frozen W) (eQ19).1 (eQ19).2.1 (eQ19).2.2 := pure_of_run (pok h (T := [eQ9]) (.cons (isQ9 h) (.nil))) (by kernel_rfl) runQ19
theorem isQ20 : PureC Tryz.prog (Go.Ax.frozen W) (eQ20).1 (eQ20).2.1 (eQ20).2.2 := pure_of_run (pok h (T := [eQ9]) (.cons (isQ9 h) (.nil))) (by kernel_rfl) runQ20
theorem isQ21 : PureC Tryz.prog (Go.Ax.frozen W) (eQ21).1 (eQ21).2.1 (eQ21).2.2 := pure_of_run (pok h (T := []) (.nil)) (by kernel_rfl) runQ21
theorem isQ22 : PureC Tryz.prog (Go.Ax.frozen W) (eQ22).1 (eQ22).2.1 (eQ22).2.2 := pure_of_run (pok h (T := [eQ21]) (.cons (isQ21 h) (.nil))) (by kernel_rfl) runQ22
theorem isQ23 : PureC Tryz.prog (Go.Ax.frozen W) (eQ23).1 (eQ23).2.1 (eQ23).2.2 := pure_of_run (pok h (T := [eQ22]) (.cons (isQ22 h) (.nil))) (by kernel_rfl) runQ23
theorem isQ24 : PureC Tryz.prog (Go.Ax.frozen W) (eQ24).1 (eQ24).2.1 (eQ24).2.2 := pure_of_run (pok h (T := [eQ22]) (.cons (isQ22 h) (.nil))) (by kernel_rfl) runQ24
theorem isQ25 : PureC Tryz.prog (Go.Ax.frozen W) (eQ25).1 (eQ25).2.1 (eQ25).2.2 := pure_of_run (pok h (T := []) (.nil)) (by kernel_rfl) runQ25
theorem isQ26 : PureC Tryz.prog (Go.Ax.frozen W) (eQ26).1 (eQ26).2.1 (eQ26).2.2 := pure_of_run (pok h (T := []) (.nil)) (by kernel_rfl) runQ26
theorem isQ27 : PureC Tryz.prog (Go.Ax.frozen W) (eQ27).1 (eQ27).2.1 (eQ27).2.2 := pure_of_run (pok h (T := []) (.nil)) (by kernel_rfl) runQ27
theorem isQ28 : PureC Tryz.prog (Go.Ax.frozen W) (eQ28).1 (eQ28).2.1 (eQ28).2.2 := pure_of_run (pok h (T := [eQ27]) (.cons (isQ27 h) (.nil))) (by kernel_rfl) runQ28
theorem isQ29 : PureC Tryz.prog (Go.Ax.frozen W) (eQ29).1 (eQ29).2.1 (eQ29).2.2 := pure_of_run (pok h (T := [eQ28]) (.cons (isQ28 h) (.nil))) (by kernel_rfl) runQ29
theorem isQ30 : PureC Tryz.prog (Go.Ax.frozen W) (eQ30).1 (eQ30).2.1 (eQ30).2.2 := pure_of_run (pok h (T := []) (.nil)) (by kernel_rfl) runQ30
theorem isQ31 : PureC Tryz.prog (Go.Ax.frozen W) (eQ31).1 (eQ31).2.1 (eQ31).2.2 := pure_of_run (pok h (T := []) (.nil)) (by kernel_rfl) runQ31
theorem isQ32 : PureC Tryz.prog (Go.Ax.frozen W) (eQ32).1 (eQ32).2.1 (eQ32).2.2 := pure_of_run (pok h (T := []) (.nil)) (by kernel_rfl) runQ32
theorem isQ33 : PureC Tryz.prog (Go.Ax.frozen W) (eQ33).1 (eQ33).2.1 (eQ33).2.2 := pure_of_run (pok h (T := []) (.nil)) (by kernel_rfl) runQ33
theorem isQ34 : PureC Tryz.prog (Go.Ax.frozen W) (eQ34).1 (eQ34).2.1 (eQ34).2.2 := pure_of_run (pok h (T := [eQ0, eQ3, eQ6, eQ7, eQ10, eQ11, eQ12, eQ13, eQ14, eQ15, eQ16, eQ17, eQ18, eQ19, eQ20, eQ23, eQ24, eQ25, eQ26, eQ29, eQ30, eQ31, eQ32, eQ33]) (.cons (isQ0 h) (.cons (isQ3 h) (.cons (isQ6 h) (.cons (isQ7 h) (.cons (isQ10 h) (.cons (isQ11 h) (.cons (isQ12 h) (.cons (isQ13 h) (.cons (isQ14 h) (.cons (isQ15 h) (.cons (isQ16 h) (.cons (isQ17 h) (.cons (isQ18 h) (.cons (isQ19 h) (.cons (isQ20 h) (.cons (isQ23 h) (.cons (isQ24 h) (.cons (isQ25 h) (.cons (isQ26 h) (.cons (isQ29 h) (.cons (isQ30 h) (.cons (isQ31 h) (.cons (isQ32 h) (.cons (isQ33 h) (.nil)))))))))))))))))))))))))) (by kernel_rfl) runQ34
theorem isQ35 : PureC Tryz.prog (Go.Ax.frozen W) (eQ35).1 (eQ35).2.1 (eQ35).2.2 := pure_of_run (pok h (T := []) (.nil)) (by kernel_rfl) runQ35
theorem isQ36 : PureC Tryz.prog (Go.Ax.frozen W) (eQ36).1 (eQ36).2.1 (eQ36).2.2 := pure_of_run (pok h (T := [eQ35]) (.cons (isQ35 h) (.nil))) (by kernel_rfl) runQ36
theorem isQ37 : PureC Tryz.prog (Go.Ax.frozen W) (eQ37).1 (eQ37).2.1 (eQ37).2.2 := pure_of_run (pok h (T := [eQ36]) (.cons (isQ36 h) (.nil))) (by kernel_rfl) runQ37
theorem isQ38 : PureC Tryz.prog (Go.Ax.frozen W) (eQ38).1 (eQ38).2.1 (eQ38).2.2 := pure_of_run (pok h (T := [eQ37]) (.cons (isQ37 h) (.nil))) (by kernel_rfl) runQ38
theorem isQ39 : PureC Tryz.prog (Go.Ax.frozen W) (eQ39).1 (eQ39).2.1 (eQ39).2.2 := pure_of_run (pok h (T := [eQ37]) (.cons (isQ37 h) (.nil))) (by kernel_rfl) runQ39
theorem isQ40 : PureC Tryz.prog (Go.Ax.frozen W) (eQ40).1 (eQ40).2.1 (eQ40).2.2 := pure_of_run (pok h (T := [eQ38, eQ39]) (.cons (isQ38 h) (.cons (isQ39 h) (.nil)))) (by kernel_rfl) runQ40
theorem isQ41 : PureC Tryz.prog (Go.Ax.frozen W) (eQ41).1 (eQ41).2.1 (eQ41).2.2 := pure_of_run (pok h (T := [eQ37]) (.cons (isQ37 h) (.nil))) (by kernel_rfl) runQ41
theorem isQ42 : PureC Tryz.prog (Go.Ax.frozen W) (eQ42).1 (eQ42).2.1 (eQ42).2.2 := pure_of_run (pok h (T := []) (.nil)) (by kernel_rfl) runQ42
theorem isQ43 : PureC Tryz.prog (Go.Ax.frozen W) (eQ43).1 (eQ43).2.1 (eQ43).2.2 := pure_of_run (pok h (T := []) (.nil)) (by kernel_rfl) runQ43
theorem isQ44 : PureC Tryz.prog (Go.Ax.frozen W) (eQ44).1 (eQ44).2.1 (eQ44).2.2 := pure_of_run (pok h (T := [eQ37]) (.cons (isQ37 h) (.nil))) (by kernel_rfl) runQ44
theorem isQ45 : PureC Tryz.prog (Go.Ax.frozen W) (eQ45).1 (eQ45).2.1 (eQ45).2.2 := pure_of_run (pok h (T := []) (.nil)) (by kernel_rfl) runQ45
theorem isQ46 : PureC Tryz.prog (Go.Ax.frozen W) (eQ46).1 (eQ46).2.1 (eQ46).2.2 := pure_of_run (pok h (T := []) (.nil)) (by kernel_rfl) runQ46
theorem isQ47 : PureC Tryz.prog (Go.Ax.frozen W) (eQ47).1 (eQ47).2.1 (eQ47).2.2 := pure_of_run (pok h (T := [eQ37]) (.cons (isQ37 h) (.nil))) (by kernel_rfl) runQ47
theorem isQ48 : PureC Tryz.prog (Go.Ax.frozen W) (eQ48).1 (eQ48).2.1 (eQ48).2.2 := pure_of_run (pok h (T := [eQ37]) (.cons (isQ37 h) (.nil))) (by kernel_rfl) runQ48
theorem isQ49 : PureC Tryz.prog (Go.Ax.frozen W) (eQ49).1 (eQ49).2.1 (eQ49).2.2 := pure_of_run (pok h (T := []) (.nil)) (by kernel_rfl) runQ49
theorem isQ50 : PureC Tryz.prog (Go.Ax.frozen W) (eQ50).1 (eQ50).2.1 (eQ50).2.2 := pure_of_run (pok h (T := []) (.nil)) (by kernel_rfl) runQ50
theorem isQ51 : PureC Tryz.prog (Go.Ax.frozen W) (eQ51).1 (eQ51).2.1 (eQ51).2.2 := pure_of_run (pok h (T := []) (.nil)) (by kernel_rfl) runQ51
theorem isQ52 : PureC Tryz.prog (Go.Ax.frozen W) (eQ52).1 (eQ52).2.1 (eQ52).2.2 := pure_of_run (pok h (T := [eQ36]) (.cons (isQ36 h) (.nil))) (by kernel_rfl) runQ52
theorem isQ53 : PureC Tryz.prog (Go.Ax.frozen W) (eQ53).1 (eQ53).2.1 (eQ53).2.2 := pure_of_run (pok h (T := [eQ52]) (.cons (isQ52 h) (.nil))) (by kernel_rfl) runQ53
theorem isQ54 : PureC Tryz.prog (Go.Ax.frozen W) (eQ54).1 (eQ54).2.1 (eQ54).2.2 := pure_of_run (pok h (T := [eQ52]) (.cons (isQ52 h) (.nil))) (by kernel_rfl) runQ54
theorem isQ55 : PureC Tryz.prog (Go.Ax.frozen W) (eQ55).1 (eQ55).2.1 (eQ55).2.2 := pure_of_run (pok h (T := [eQ53, eQ54]) (.cons (isQ53 h) (.cons (isQ54 h) (.nil)))) (by kernel_rfl) runQ55
theorem isQ56 : PureC Tryz.prog (Go.Ax.frozen W) (eQ56).1 (eQ56).2.1 (eQ56).2.2 := pure_of_run (pok h (T := [eQ52]) (.cons (isQ52 h) (.nil))) (by kernel_rfl) runQ56
theorem isQ57 : PureC Tryz.prog (Go.Ax.frozen W) (eQ57).1 (eQ57).2.1 (eQ57).2.2 := pure_of_run (pok h (T := []) (.nil)) (by kernel_rfl) runQ57
theorem isQ58 : PureC Tryz.prog (Go.Ax.frozen W) (eQ58).1 (eQ58).2.1 (eQ58).2.2 := pure_of_run (pok h (T := [eQ36]) (.cons (isQ36 h) (.nil))) (by kernel_rfl) runQ58
theorem isQ59 : PureC Tryz.prog (Go.Ax.frozen W) (eQ59).1 (eQ59).2.1 (eQ59).2.2 := pure_of_run (pok h (T := [eQ58]) (.cons (isQ58 h) (.nil))) (by kernel_rfl) runQ59
theorem isQ60 : PureC Tryz.prog (Go.Ax.frozen W) (eQ60).1 (eQ60).2.1 (eQ60).2.2 := pure_of_run (pok h (T := [eQ58]) (.cons (isQ58 h) (.nil))) (by kernel_rfl) runQ60
theorem isQ61 : PureC Tryz.prog (Go.Ax.frozen W) (eQ61).1 (eQ61).2.1 (eQ61).2.2 := pure_of_run (pok h (T := [eQ59, eQ60]) (.cons (isQ59 h) (.cons (isQ60 h) (.nil)))) (by kernel_rfl) runQ61
theorem isQ62 : PureC Tryz.prog (Go.Ax.frozen W) (eQ62).1 (eQ62).2.1 (eQ62).2.2 := pure_of_run (pok h (T := [eQ58]) (.cons (isQ58 h) (.nil))) (by kernel_rfl) runQ62
theorem isQ63 : PureC Tryz.prog (Go.Ax.frozen W) (eQ63).1 (eQ63).2.1 (eQ63).2.2 := pure_of_run (pok h (T := []) (.nil)) (by kernel_rfl) runQ63
theorem isQ64 : PureC Tryz.prog (Go.Ax.frozen W) (eQ64).1 (eQ64).2.1 (eQ64).2.2 := pure_of_run (pok h (T := [eQ11, eQ15, eQ16, eQ25, eQ30, eQ32, eQ33, eQ36, eQ38, eQ40, eQ41, eQ42, eQ43, eQ44, eQ45, eQ46, eQ47, eQ48, eQ49, eQ50, eQ51, eQ53, eQ55, eQ56, eQ57, eQ59, eQ61, eQ62, eQ63]) (.cons (isQ11 h) (.cons (isQ15 h) (.cons (isQ16 h) (.cons (isQ25 h) (.cons (isQ30 h) (.cons (isQ32 h) (.cons (isQ33 h) (.cons (isQ36 h) (.cons (isQ38 h) (.cons (isQ40 h) (.cons (isQ41 h) (.cons (isQ42 h) (.cons (isQ43 h) (.cons (isQ44 h) (.cons (isQ45 h) (.cons (isQ46 h) (.cons (isQ47 h) (.cons (isQ48 h) (.cons (isQ49 h) (.cons (isQ50 h) (.cons (isQ51 h) (.cons (isQ53 h) (.cons (isQ55 h) (.cons (isQ56 h) (.cons (isQ57 h) (.cons (isQ59 h) (.cons (isQ61 h) (.cons (isQ62 h) (.cons (isQ63 h) (.nil))))))))))))))))))))))))))))))) (by kernel_rfl) runQ64
theorem isQ65 : PureC Tryz.prog (Go.Ax.frozen W) (eQ65).1 (eQ65).2.1 (eQ65).2.2 := pure_of_run (pok h (T := [eQ64]) (.cons (isQ64 h) (.nil))) (by kernel_rfl) runQ65
theorem isQ66 : PureC Tryz.prog (Go.Ax.frozen W) (eQ66).1 (eQ66).2.1 (eQ66).2.2 := pure_of_run (pok h (T := []) (.nil)) (by kernel_rfl) runQ66
theorem isQ67 : PureC Tryz.prog (Go.Ax.frozen W) (eQ67).1 (eQ67).2.1 (eQ67).2.2 := pure_of_run (pok h (T := [eQ66]) (.cons (isQ66 h) (.nil))) (by kernel_rfl) runQ67
theorem isQ68 : PureC Tryz.prog (Go.Ax.frozen W) (eQ68).1 (eQ68).2.1 (eQ68).2.2 := pure_of_run (pok h (T := [eQ67]) (.cons (isQ67 h) (.nil))) (by kernel_rfl) runQ68
theorem isQ69 : PureC Tryz.prog (Go.Ax.frozen W) (eQ69).1 (eQ69).2.1 (eQ69).2.2 := pure_of_run (pok h (T := [eQ68]) (.cons (isQ68 h) (.nil))) (by kernel_rfl) runQ69
theorem isQ70 : PureC Tryz.prog (Go.Ax.frozen W) (eQ70).1 (eQ70).2.1 (eQ70).2.2 := pure_of_run (pok h (T := []) (.nil)) (by kernel_rfl) runQ70
theorem isQ71 : PureC Tryz.prog (Go.Ax.frozen W) (eQ71).1 (eQ71).2.1 (eQ71).2.2 := pure_of_run (pok h (T := []) (.nil)) (by kernel_rfl) runQ71
theorem isQ72 : PureC Tryz.prog (Go.Ax.frozen W) (eQ72).1 (eQ72).2.1 (eQ72).2.2 := pure_of_run (pok h (T := []) (.nil)) (by kernel_rfl) runQ72
theorem isQ73 : PureC Tryz.prog (Go.Ax.frozen W) (eQ73).1 (eQ73).2.1 (eQ73).2.2 := pure_of_run (pok h (T := [eQ3, eQ6, eQ7, eQ10, eQ11, eQ12, eQ13, eQ14, eQ19, eQ21, eQ30, eQ31, eQ32, eQ33, eQ70, eQ71, eQ72]) (.cons (isQ3 h) (.cons (isQ6 h) (.cons (isQ7 h) (.cons (isQ10 h) (.cons (isQ11 h) (.cons (isQ12 h) (.cons (isQ13 h) (.cons (isQ14 h) (.cons (isQ19 h) (.cons (isQ21 h) (.cons (isQ30 h) (.cons (isQ31 h) (.cons (isQ32 h) (.cons (isQ33 h) (.cons (isQ70 h) (.cons (isQ71 h) (.cons (isQ72 h) (.nil))))))))))))))))))) (by kernel_rfl) runQ73
theorem isQ74 : PureC Tryz.prog (Go.Ax.frozen W) (eQ74).1 (eQ74).2.1 (eQ74).2.2 := pure_of_run (pok h (T := [eQ35]) (.cons (isQ35 h) (.nil))) (by kernel_rfl) runQ74
theorem isQ75 : PureC Tryz.prog (Go.Ax.frozen W) (eQ75).1 (eQ75).2.1 (eQ75).2.2 := pure_of_run (pok h (T := [eQ74]) (.cons (isQ74 h) (.nil))) (by kernel_rfl) runQ75
theorem isQ76 : PureC Tryz.prog (Go.Ax.frozen W) (eQ76).1 (eQ76).2.1 (eQ76).2.2 := pure_of_run (pok h (T := [eQ75]) (.cons (isQ75 h) (.nil))) (by kernel_rfl) runQ76
theorem isQ77 : PureC Tryz.prog (Go.Ax.frozen W) (eQ77).1 (eQ77).2.1 (eQ77).2.2 := pure_of_run (pok h (T := [eQ75]) (.cons (isQ75 h) (.nil))) (by kernel_rfl) runQ77
theorem isQ78 : PureC Tryz.prog (Go.Ax.frozen W) (eQ78).1 (eQ78).2.1 (eQ78).2.2 := pure_of_run (pok h (T := [eQ76, eQ77]) (.cons (isQ76 h) (.cons (isQ77 h) (.nil)))) (by kernel_rfl) runQ78
theorem isQ79 : PureC Tryz.prog (Go.Ax.frozen W) (eQ79).1 (eQ79).2.1 (eQ79).2.2 := pure_of_run (pok h (T := [eQ75]) (.cons (isQ75 h) (.nil))) (by kernel_rfl) runQ79
theorem isQ80 : PureC Tryz.prog (Go.Ax.frozen W) (eQ80).1 (eQ80).2.1 (eQ80).2.2 := pure_of_run (pok h (T := []) (.nil)) (by kernel_rfl) runQ80
theorem isQ81 : PureC Tryz.prog (Go.Ax.frozen W) (eQ81).1 (eQ81).2.1 (eQ81).2.2 := pure_of_run (pok h (T := []) (.nil)) (by kernel_rfl) runQ81
theorem isQ82 : PureC Tryz.prog (Go.Ax.frozen W) (eQ82).1 (eQ82).2.1 (eQ82).2.2 := pure_of_run (pok h (T := []) (.nil)) (by kernel_rfl) runQ82
theorem isQ83 : PureC Tryz.prog (Go.Ax.frozen W) (eQ83).1 (eQ83).2.1 (eQ83).2.2 := pure_of_run (pok h (T := [eQ74]) (.cons (isQ74 h) (.nil))) (by kernel_rfl) runQ83
theorem isQ84 : PureC Tryz.prog (Go.Ax.frozen W) (eQ84).1 (eQ84).2.1 (eQ84).2.2 := pure_of_run (pok h (T := [eQ83]) (.cons (isQ83 h) (.nil))) (by kernel_rfl) runQ84
theorem isQ85 : PureC Tryz.prog (Go.Ax.frozen W) (eQ85).1 (eQ85).2.1 (eQ85).2.2 := pure_of_run (pok h (T := [eQ83]) (.cons (isQ83 h) (.nil))) (by kernel_rfl) runQ85
theorem isQ86 : PureC Tryz.prog (Go.Ax.frozen W) (eQ86).1 (eQ86).2.1 (eQ86).2.2 := pure_of_run (pok h (T := [eQ84, eQ85]) (.cons (isQ84 h) (.cons (isQ85 h) (.nil)))) (by kernel_rfl) runQ86
theorem isQ87 : PureC Tryz.prog (Go.Ax.frozen W) (eQ87).1 (eQ87).2.1 (eQ87).2.2 := pure_of_run (pok h (T := [eQ83]) (.cons (isQ83 h) (.nil))) (by kernel_rfl) runQ87
theorem isQ88 : PureC Tryz.prog (Go.Ax.frozen W) (eQ88).1 (eQ88).2.1 (eQ88).2.2 := pure_of_run (pok h (T := [eQ74]) (.cons (isQ74 h) (.nil))) (by kernel_rfl) runQ88
theorem isQ89 : PureC Tryz.prog (Go.Ax.frozen W) (eQ89).1 (eQ89).2.1 (eQ89).2.2 := pure_of_run (pok h (T := [eQ88]) (.cons (isQ88 h) (.nil))) (by kernel_rfl) runQ89
theorem isQ90 : PureC Tryz.prog (Go.Ax.frozen W) (eQ90).1 (eQ90).2.1 (eQ90).2.2 := pure_of_run (pok h (T := [eQ88]) (.cons (isQ88 h) (.nil))) (by kernel_rfl) runQ90
theorem isQ91 : PureC Tryz.prog (Go.Ax.frozen W) (eQ91).1 (eQ91).2.1 (eQ91).2.2 := pure_of_run (pok h (T := [eQ89, eQ90]) (.cons (isQ89 h) (.cons (isQ90 h) (.nil)))) (by kernel_rfl) runQ91
theorem isQ92 : PureC Tryz.prog (Go.Ax.frozen W) (eQ92).1 (eQ92).2.1 (eQ92).2.2 := pure_of_run (pok h (T := [eQ88]) (.cons (isQ88 h) (.nil))) (by kernel_rfl) runQ92
theorem isQ93 : PureC Tryz.prog (Go.Ax.frozen W) (eQ93).1 (eQ93).2.1 (eQ93).2.2 := pure_of_run (pok h (T := [eQ11, eQ30, eQ32, eQ33, eQ42, eQ57, eQ63, eQ71, eQ74, eQ76, eQ78, eQ79, eQ80, eQ81, eQ82, eQ84, eQ86, eQ87, eQ89, eQ91, eQ92]) (.cons (isQ11 h) (.cons (isQ30 h) (.cons (isQ32 h) (.cons (isQ33 h) (.cons (isQ42 h) (.cons (isQ57 h) (.cons (isQ63 h) (.cons (isQ71 h) (.cons (isQ74 h) (.cons (isQ76 h) (.cons (isQ78 h) (.cons (isQ79 h) (.cons (isQ80 h) (.cons (isQ81 h) (.cons (isQ82 h) (.cons (isQ84 h) (.cons (isQ86 h) (.cons (isQ87 h) (.cons (isQ89 h) (.cons (isQ91 h) (.cons (isQ92 h) (.nil))))))))))))))))))))))) (by kernel_rfl) runQ93
theorem isQ94 : PureC Tryz.prog (Go.Ax.frozen W) (eQ94).1 (eQ94).2.1 (eQ94).2.2 := pure_of_run (pok h (T := []) (.nil)) (by kernel_rfl) runQ94
theorem isQ95 : PureC Tryz.prog (Go.Ax.frozen W) (eQ95).1 (eQ95).2.1 (eQ95).2.2 := pure_of_run (pok h (T := [eQ93]) (.cons (isQ93 h) (.nil))) (by kernel_rfl) runQ95
theorem isQ96 : PureC Tryz.prog (Go.Ax.frozen W) (eQ96).1 (eQ96).2.1 (eQ96).2.2 := pure_of_run (pok h (T := []) (.nil)) (by kernel_rfl) runQ96
theorem isQ97 : PureC Tryz.prog (Go.Ax.frozen W) (eQ97).1 (eQ97).2.1 (eQ97).2.2 := pure_of_run (pok h (T := [eQ75, eQ83, eQ88, eQ95]) (.cons (isQ75 h) (.cons (isQ83 h) (.cons (isQ88 h) (.cons (isQ95 h) (.nil)))))) (by kernel_rfl) runQ97
theorem isQ98 : PureC Tryz.prog (Go.Ax.frozen W) (eQ98).1 (eQ98).2.1 (eQ98).2.2 := pure_of_run (pok h (T := []) (.nil)) (by kernel_rfl) runQ98
theorem isQ99 : PureC Tryz.prog (Go.Ax.frozen W) (eQ99).1 (eQ99).2.1 (eQ99).2.2 := pure_of_run (pok h (T := [eQ98]) (.cons (isQ98 h) (.nil))) (by kernel_rfl) runQ99
theorem isQ100 : PureC Tryz.prog (Go.Ax.frozen W) (eQ100).1 (eQ100).2.1 (eQ100).2.2 := pure_of_run (pok h (T := []) (.nil)) (by kernel_rfl) runQ100
theorem isQ101 : PureC Tryz.prog (Go.Ax.frozen W) (eQ101).1 (eQ101).2.1 (eQ101).2.2 := pure_of_run (pok h (T := []) (.nil)) (by kernel_rfl) runQ101
theorem isQ102 : PureC Tryz.prog (Go.Ax.frozen W) (eQ102).1 (eQ102).2.1 (eQ102).2.2 := pure_of_run (pok h (T := []) (.nil)) (by kernel_rfl) runQ102
theorem isQ103 : PureC Tryz.prog (Go.Ax.frozen W) (eQ103).1 (eQ103).2.1 (eQ103).2.2 := pure_of_run (pok h (T := [eQ98]) (.cons (isQ98 h) (.nil))) (by kernel_rfl) runQ103
theorem isQ104 : PureC Tryz.prog (Go.Ax.frozen W) (eQ104).1 (eQ104).2.1 (eQ104).2.2 := pure_of_run (pok h (T := [eQ98]) (.cons (isQ98 h) (.nil))) (by kernel_rfl) runQ104
theorem isQ105 : PureC Tryz.prog (Go.Ax.frozen W) (eQ105).1 (eQ105).2.1 (eQ105).2.2 := pure_of_run (pok h (T := [eQ100]) (.cons (isQ100 h) (.nil))) (by kernel_rfl) runQ105
theorem isQ106 : PureC Tryz.prog (Go.Ax.frozen W) (eQ106).1 (eQ106).2.1 (eQ106).2.2 := pure_of_run (pok h (T := [eQ98]) (.cons (isQ98 h) (.nil))) (by kernel_rfl) runQ106
theorem isQ107 : PureC Tryz.prog (Go.Ax.frozen W) (eQ107).1 (eQ107).2.1 (eQ107).2.2 := pure_of_run (pok h (T := [eQ98]) (.cons (isQ98 h) (.nil))) (by kernel_rfl) runQ107
theorem isQ108 : PureC Tryz.prog (Go.Ax.frozen W) (eQ108).1 (eQ108).2.1 (eQ108).2.2 := pure_of_run (pok h (T := [eQ98]) (.cons (isQ98 h) (.nil))) (by kernel_rfl) runQ108
theorem isQ109 : PureC Tryz.prog (Go.Ax.frozen W) (eQ109).1 (eQ109).2.1 (eQ109).2.2 := pure_of_run (pok h (T := [eQ98]) (.cons (isQ98 h) (.nil))) (by kernel_rfl) runQ109
theorem isQ110 : PureC Tryz.prog (Go.Ax.frozen W) (eQ110).1 (eQ110).2.1 (eQ110).2.2 := pure_of_run (pok h (T := [eQ98]) (.cons (isQ98 h) (.nil))) (by kernel_rfl) runQ110
theorem isQ111 : PureC Tryz.prog (Go.Ax.frozen W) (eQ111).1 (eQ111).2.1 (eQ111).2.2 := pure_of_run (pok h (T := [eQ98]) (.cons (isQ98 h) (.nil))) (by kernel_rfl) runQ111
theorem isQ112 : PureC Tryz.prog (Go.Ax.frozen W) (eQ112).1 (eQ112).2.1 (eQ112).2.2 := pure_of_all (pok h (T := [eQ75, eQ83, eQ88, eQ95, eQ96, eQ97, eQ99, eQ100, eQ101, eQ102, eQ103, eQ104, eQ105, eQ106, eQ107, eQ108, eQ109, eQ110, eQ111]) (.cons (isQ75 h) (.cons (isQ83 h) (.cons (isQ88 h) (.cons (isQ95 h) (.cons (isQ96 h) (.cons (isQ97 h) (.cons (isQ99 h) (.cons (isQ100 h) (.cons (isQ101 h) (.cons (isQ102 h) (.cons (isQ103 h) (.cons (isQ104 h) (.cons (isQ105 h) (.cons (isQ106 h) (.cons (isQ107 h) (.cons (isQ108 h) (.cons (isQ109 h) (.cons (isQ110 h) (.cons (isQ111 h) (.nil))))))))))))))))))))) (prOr_ok (sortedEP_ok (pok h (T := []) .nil) sortFok) (prT_ok (.nil))) (by kernel_rfl) runQ112
theorem isQ113 : PureC Tryz.prog (Go.Ax.frozen W) (eQ113).1 (eQ113).2.1 (eQ113).2.2 := pure_of_run (pok h (T := []) (.nil)) (by kernel_rfl) runQ113
theorem isQ114 : PureC Tryz.prog (Go.Ax.frozen W) (eQ114).1 (eQ114).2.1 (eQ114).2.2 := pure_of_run (pok h (T := [eQ113]) (.cons (isQ113 h) (.nil))) (by kernel_rfl) runQ114
theorem isQ115 : PureC Tryz.prog (Go.Ax.frozen W) (eQ115).1 (eQ115).2.1 (eQ115).2.2 := pure_of_run (pok h (T := []) (.nil)) (by kernel_rfl) runQ115
theorem isQ116 : PureC Tryz.prog (Go.Ax.frozen W) (eQ116).1 (eQ116).2.1 (eQ116).2.2 := pure_of_run (pok h (T := [eQ35, eQ93, eQ94, eQ112, eQ114, eQ115]) (.cons (isQ35 h) (.cons (isQ93 h) (.cons (isQ94 h) (.cons (isQ112 h) (.cons (isQ114 h) (.cons (isQ115 h) (.nil)))))))) (by kernel_rfl) runQ116
theorem isQ117 : PureC Tryz.prog (Go.Ax.frozen W) (eQ117).1 (eQ117).2.1 (eQ117).2.2 := pure_of_run (pok h (T := [eQ35]) (.cons (isQ35 h) (.nil))) (by kernel_rfl) runQ117
theorem isQ118 : PureC Tryz.prog (Go.Ax.frozen W) (eQ118).1 (eQ118).2.1 (eQ118).2.2 := pure_of_run (pok h (T := []) (.nil)) (by kernel_rfl) runQ118
theorem isQ119 : PureC Tryz.prog (Go.Ax.frozen W) (eQ119).1 (eQ119).2.1 (eQ119).2.2 := pure_of_run (pok h (T := []) (.nil)) (by kernel_rfl) runQ119
theorem isQ120 : PureC Tryz.prog (Go.Ax.frozen W) (eQ120).1 (eQ120).2.1 (eQ120).2.2 := pure_of_run (pok h (T := []) (.nil)) (by kernel_rfl) runQ120
theorem isQ121 : PureC Tryz.prog (Go.Ax.frozen W) (eQ121).1 (eQ121).2.1 (eQ121).2.2 := pure_of_run (pok h (T := []) (.nil)) (by kernel_rfl) runQ121
theorem isQ122 : PureC Tryz.prog (Go.Ax.frozen W) (eQ122).1 (eQ122).2.1 (eQ122).2.2 := pure_of_run (pok h (T := []) (.nil)) (by kernel_rfl) runQ122
theorem isQ123 : PureC Tryz.prog (Go.Ax.frozen W) (eQ123).1 (eQ123).2.1 (eQ123).2.2 := pure_of_run (pok h (T := []) (.nil)) (by kernel_rfl) runQ123
theorem isQ124 : PureC Tryz.prog (Go.Ax.frozen W) (eQ124).1 (eQ124).2.1 (eQ124).2.2 := pure_of_run (pok h (T := [eQ11, eQ32, eQ33, eQ42, eQ71, eQ80, eQ117, eQ118, eQ119, eQ120, eQ121, eQ122, eQ123]) (.cons (isQ11 h) (.cons (isQ32 h) (.cons (isQ33 h) (.cons (isQ42 h) (.cons (isQ71 h) (.cons (isQ80 h) (.cons (isQ117 h) (.cons (isQ118 h) (.cons (isQ119 h) (.cons (isQ120 h) (.cons (isQ121 h) (.cons (isQ122 h) (.cons (isQ123 h) (.nil))))))))))))))) (by kernel_rfl) runQ124
theorem isQ125 : PureC Tryz.prog (Go.Ax.frozen W) (eQ125).1 (eQ125).2.1 (eQ125).2.2 := pure_of_run (pok h (T := [eQ64]) (.cons (isQ64 h) (.nil))) (by kernel_rfl) runQ125
theorem isQ126 : PureC Tryz.prog (Go.Ax.frozen W) (eQ126).1 (eQ126).2.1 (eQ126).2.2 := pure_of_run (pok h (T := []) (.nil)) (by kernel_rfl) runQ126
theorem isQ127 : PureC Tryz.prog (Go.Ax.frozen W) (eQ127).1 (eQ127).2.1 (eQ127).2.2 := pure_of_run (pok h (T := [eQ37, eQ52, eQ58, eQ125]) (.cons (isQ37 h) (.cons (isQ52 h) (.cons (isQ58 h) (.cons (isQ125 h) (.nil)))))) (by kernel_rfl) runQ127
theorem isQ128 : PureC Tryz.prog (Go.Ax.frozen W) (eQ128).1 (eQ128).2.1 (eQ128).2.2 := pure_of_run (pok h (T := []) (.nil)) (by kernel_rfl) runQ128
theorem isQ129 : PureC Tryz.prog (Go.Ax.frozen W) (eQ129).1 (eQ129).2.1 (eQ129).2.2 := pure_of_run (pok h (T := [eQ128]) (.cons (isQ128 h) (.nil))) (by kernel_rfl) runQ129
theorem isQ130 : PureC Tryz.prog (Go.Ax.frozen W) (eQ130).1 (eQ130).2.1 (eQ130).2.2 := pure_of_run (pok h (T := [eQ128]) (.cons (isQ128 h) (.nil))) (by kernel_rfl) runQ130
theorem isQ131 : PureC Tryz.prog (Go.Ax.frozen W) (eQ131).1 (eQ131).2.1 (eQ131).2.2 := pure_of_run (pok h (T := []) (.nil)) (by kernel_rfl) runQ131
theorem isQ132 : PureC Tryz.prog (Go.Ax.frozen W) (eQ132).1 (eQ132).2.1 (eQ132).2.2 := pure_of_run (pok h (T := []) (.nil)) (by kernel_rfl) runQ132
theorem isQ133 : PureC Tryz.prog (Go.Ax.frozen W) (eQ133).1 (eQ133).2.1 (eQ133).2.2 := pure_of_run (pok h (T := [eQ128]) (.cons (isQ128 h) (.nil))) (by kernel_rfl) runQ133
theorem isQ134 : PureC Tryz.prog (Go.Ax.frozen W) (eQ134).1 (eQ134).2.1 (eQ134).2.2 := pure_of_run (pok h (T := []) (.nil)) (by kernel_rfl) runQ134
theorem isQ135 : PureC Tryz.prog (Go.Ax.frozen W) (eQ135).1 (eQ135).2.1 (eQ135).2.2 := pure_of_run (pok h (T := []) (.nil)) (by kernel_rfl) runQ135
theorem isQ136 : PureC Tryz.prog (Go.Ax.frozen W) (eQ136).1 (eQ136).2.1 (eQ136).2.2 := pure_of_run (pok h (T := []) (.nil)) (by kernel_rfl) runQ136
theorem isQ137 : PureC Tryz.prog (Go.Ax.frozen W) (eQ137).1 (eQ137).2.1 (eQ137).2.2 := pure_of_run (pok h (T := []) (.nil)) (by kernel_rfl) runQ137
theorem isQ138 : PureC Tryz.prog (Go.Ax.frozen W) (eQ138).1 (eQ138).2.1 (eQ138).2.2 := pure_of_run (pok h (T := [eQ128]) (.cons (isQ128 h) (.nil))) (by kernel_rfl) runQ138
theorem isQ139 : PureC Tryz.prog (Go.Ax.frozen W) (eQ139).1 (eQ139).2.1 (eQ139).2.2 := pure_of_run (pok h (T := [eQ128]) (.cons (isQ128 h) (.nil))) (by kernel_rfl) runQ139
theorem isQ140 : PureC Tryz.prog (Go.Ax.frozen W) (eQ140).1 (eQ140).2.1 (eQ140).2.2 := pure_of_run (pok h (T := [eQ128]) (.cons (isQ128 h) (.nil))) (by kernel_rfl) runQ140
theorem isQ141 : PureC Tryz.prog (Go.Ax.frozen W) (eQ141).1 (eQ141).2.1 (eQ141).2.2 := pure_of_run (pok h (T := [eQ128]) (.cons (isQ128 h) (.nil))) (by kernel_rfl) runQ141
theorem isQ142 : PureC Tryz.prog (Go.Ax.frozen W) (eQ142).1 (eQ142).2.1 (eQ142).2.2 := pure_of_run (pok h (T := [eQ128]) (.cons (isQ128 h) (.nil))) (by kernel_rfl) runQ142
theorem isQ143 : PureC Tryz.prog (Go.Ax.frozen W) (eQ143).1 (eQ143).2.1 (eQ143).2.2 := pure_of_run (pok h (T := [eQ128]) (.cons (isQ128 h) (.nil))) (by kernel_rfl) runQ143
theorem isQ144 : PureC Tryz.prog (Go.Ax.frozen W) (eQ144).1 (eQ144).2.1 (eQ144).2.2 := pure_of_run (pok h (T := [eQ128]) (.cons (isQ128 h) (.nil))) (by kernel_rfl) runQ144
theorem isQ145 : PureC Tryz.prog (Go.Ax.frozen W) (eQ145).1 (eQ145).2.1 (eQ145).2.2 := pure_of_run (pok h (T := [eQ128]) (.cons (isQ128 h) (.nil))) (by kernel_rfl) runQ145
theorem isQ146 : PureC Tryz.prog (Go.Ax.frozen W) (eQ146).1 (eQ146).2.1 (eQ146).2.2 := pure_of_all (pok h (T := [eQ37, eQ52, eQ58, eQ100, eQ101, eQ102, eQ105, eQ125, eQ126, eQ127, eQ129, eQ130, eQ131, eQ132, eQ133, eQ134, eQ135, eQ136, eQ137, eQ138, eQ139, eQ140, eQ141, eQ142, eQ143, eQ144, eQ145]) (.cons (isQ37 h) (.cons (isQ52 h) (.cons (isQ58 h) (.cons (isQ100 h) (.cons (isQ101 h) (.cons (isQ102 h) (.cons (isQ105 h) (.cons (isQ125 h) (.cons (isQ126 h) (.cons (isQ127 h) (.cons (isQ129 h) (.cons (isQ130 h) (.cons (isQ131 h) (.cons (isQ132 h) (.cons (isQ133 h) (.cons (isQ134 h) (.cons (isQ135 h) (.cons (isQ136 h) (.cons (isQ137 h) (.cons (isQ138 h) (.cons (isQ139 h) (.cons (isQ140 h) (.cons (isQ141 h) (.cons (isQ142 h) (.cons (isQ143 h) (.cons (isQ144 h) (.cons (isQ145 h) (.nil))))))))))))))))))))))))))))) (prOr_ok (sortedEP_ok (pok h (T := []) .nil) sortFok) (prT_ok (.nil))) (by kernel_rfl) runQ146
theorem isQ147 : PureC Tryz.prog (Go.Ax.frozen W) (eQ147).1 (eQ147).2.1 (eQ147).2.2 := pure_of_run (pok h (T := []) (.nil)) (by kernel_rfl) runQ147
theorem isQ148 : PureC Tryz.prog (Go.Ax.frozen W) (eQ148).1 (eQ148).2.1 (eQ148).2.2 := pure_of_run (pok h (T := [eQ147]) (.cons (isQ147 h) (.nil))) (by kernel_rfl) runQ148
theorem isQ149 : PureC Tryz.prog (Go.Ax.frozen W) (eQ149).1 (eQ149).2.1 (eQ149).2.2 := pure_of_run (pok h (T := []) (.nil)) (by kernel_rfl) runQ149
theorem isQ150 : PureC Tryz.prog (Go.Ax.frozen W) (eQ150).1 (eQ150).2.1 (eQ150).2.2 := pure_of_run (pok h (T := [eQ35, eQ64, eQ94, eQ115, eQ146, eQ148, eQ149]) (.cons (isQ35 h) (.cons (isQ64 h) (.cons (isQ94 h) (.cons (isQ115 h) (.cons (isQ146 h) (.cons (isQ148 h) (.cons (isQ149 h) (.nil))))))))) (by kernel_rfl) runQ150
theorem isQ151 : PureC Tryz.prog (Go.Ax.frozen W) (eQ151).1 (eQ151).2.1 (eQ151).2.2 := pure_of_run (pok h (T := []) (.nil)) (by kernel_rfl) runQ151
theorem isQ152 : PureC Tryz.prog (Go.Ax.frozen W) (eQ152).1 (eQ152).2.1 (eQ152).2.2 := pure_of_run (pok h (T := []) (.nil)) (by kernel_rfl) runQ152
theorem isQ153 : PureC Tryz.prog (Go.Ax.frozen W) (eQ153).1 (eQ153).2.1 (eQ153).2.2 := pure_of_run (pok h (T := []) (.nil)) (by kernel_rfl) runQ153
theorem isQ154 : PureC Tryz.prog (Go.Ax.frozen W) (eQ154).1 (eQ154).2.1 (eQ154).2.2 := pure_of_run (pok h (T := [eQ11, eQ15, eQ16, eQ25, eQ30, eQ32, eQ33, eQ36, eQ42, eQ45, eQ118, eQ119, eQ120, eQ121, eQ151, eQ152, eQ153]) (.cons (isQ11 h) (.cons (isQ15 h) (.cons (isQ16 h) (.cons (isQ25 h) (.cons (isQ30 h) (.cons (isQ32 h) (.cons (isQ33 h) (.cons (isQ36 h) (.cons (isQ42 h) (.cons (isQ45 h) (.cons (isQ118 h) (.cons (isQ119 h) (.cons (isQ120 h) (.cons (isQ121 h) (.cons (isQ151 h) (.cons (isQ152 h) (.cons (isQ153 h) (.nil))))))))))))))))))) (by kernel_rfl) runQ154
theorem isQ155 : PureC Tryz.prog (Go.Ax.frozen W) (eQ155).1 (eQ155).2.1 (eQ155).2.2 := pure_of_run (pok h (T := []) (.nil)) (by kernel_rfl) runQ155
theorem isQ156 : PureC Tryz.prog (Go.Ax.frozen W) (eQ156).1 (eQ156).2.1 (eQ156).2.2 := pure_of_run (pok h (T := []) (.nil)) (by kernel_rfl) runQ156
theorem isQ157 : PureC Tryz.prog (Go.Ax.frozen W) (eQ157).1 (eQ157).2.1 (eQ157).2.2 := pure_of_run (pok h (T := []) (.nil)) (by kernel_rfl) runQ157
theorem isQ158 : PureC Tryz.prog (Go.Ax.frozen W) (eQ158).1 (eQ158).2.1 (eQ158).2.2 := pure_of_run (pok h (T := [eQ3, eQ6, eQ7, eQ10, eQ14, eQ19, eQ21, eQ30, eQ31, eQ32, eQ33, eQ71, eQ72, eQ155, eQ156, eQ157]) (.cons (isQ3 h) (.cons (isQ6 h) (.cons (isQ7 h) (.cons (isQ10 h) (.cons (isQ14 h) (.cons (isQ19 h) (.cons (isQ21 h) (.cons (isQ30 h) (.cons (isQ31 h) (.cons (isQ32 h) (.cons (isQ33 h) (.cons (isQ71 h) (.cons (isQ72 h) (.cons (isQ155 h) (.cons (isQ156 h) (.cons (isQ157 h) (.nil)))))))))))))))))) (by kernel_rfl) runQ158
theorem isQ159 : PureC Tryz.prog (Go.Ax.frozen W) (eQ159).1 (eQ159).2.1 (eQ159).2.2 := pure_of_run (pok h (T := [eQ35]) (.cons (isQ35 h) (.nil))) (by kernel_rfl) runQ159
theorem isQ160 : PureC Tryz.prog (Go.Ax.frozen W) (eQ160).1 (eQ160).2.1 (eQ160).2.2 := pure_of_run (pok h (T := [eQ159]) (.cons (isQ159 h) (.nil))) (by kernel_rfl) runQ160
theorem isQ161 : PureC Tryz.prog (Go.Ax.frozen W) (eQ161).1 (eQ161).2.1 (eQ161).2.2 := pure_of_run (pok h (T := [eQ160]) (.cons (isQ160 h) (.nil))) (by kernel_rfl) runQ161
theorem isQ162 : PureC Tryz.prog (Go.Ax.frozen W) (eQ162).1 (eQ162).2.1 (eQ162).2.2 := pure_of_run (pok h (T := [eQ160]) (.cons (isQ160 h) (.nil))) (by kernel_rfl) runQ162
theorem isQ163 : PureC Tryz.prog (Go.Ax.frozen W) (eQ163).1 (eQ163).2.1 (eQ163).2.2 := pure_of_run (pok h (T := [eQ161, eQ162]) (.cons (isQ161 h) (.cons (isQ162 h) (.nil)))) (by kernel_rfl) runQ163
theorem isQ164 : PureC Tryz.prog (Go.Ax.frozen W) (eQ164).1 (eQ164).2.1 (eQ164).2.2 := pure_of_run (pok h (T := [eQ160]) (.cons (isQ160 h) (.nil))) (by kernel_rfl) runQ164
theorem isQ165 : PureC Tryz.prog (Go.Ax.frozen W) (eQ165).1 (eQ165).2.1 (eQ165).2.2 := pure_of_run (pok h (T := []) (.nil)) (by kernel_rfl) runQ165
theorem isQ166 : PureC Tryz.prog (Go.Ax.frozen W) (eQ166).1 (eQ166).2.1 (eQ166).2.2 := pure_of_run (pok h (T := [eQ159]) (.cons (isQ159 h) (.nil))) (by kernel_rfl) runQ166
theorem isQ167 : PureC Tryz.prog (Go.Ax.frozen W) (eQ167).1 (eQ167).2.1 (eQ167).2.2 := pure_of_run (pok h (T := [eQ166]) (.cons (isQ166 h) (.nil))) (by kernel_rfl) runQ167
theorem isQ168 : PureC Tryz.prog (Go.Ax.frozen W) (eQ168).1 (eQ168).2.1 (eQ168).2.2 := pure_of_run (pok h (T := [eQ166]) (.cons (isQ166 h) (.nil))) (by kernel_rfl) runQ168
theorem isQ169 : PureC Tryz.prog (Go.Ax.frozen W) (eQ169).1 (eQ169).2.1 (eQ169).2.2 := pure_of_run (pok h (T := [eQ167, eQ168]) (.cons (isQ167 h) (.cons (isQ168 h) (.nil)))) (by kernel_rfl) runQ169
theorem isQ170 : PureC Tryz.prog (Go.Ax.frozen W) (eQ170).1 (eQ170).2.1 (eQ170).2.2 := pure_of_run (pok h (T := [eQ166]) (.cons (isQ166 h) (.nil))) (by kernel_rfl) runQ170
theorem isQ171 : PureC Tryz.prog (Go.Ax.frozen W) (eQ171).1 (eQ171).2.1 (eQ171).2.2 := pure_of_run (pok h (T := [eQ159]) (.cons (isQ159 h) (.nil))) (by kernel_rfl) runQ171
theorem isQ172 : PureC Tryz.prog (Go.Ax.frozen W) (eQ172).1 (eQ172).2.1 (eQ172).2.2 := pure_of_run (pok h (T := [eQ171]) (.cons (isQ171 h) (.nil))) (by kernel_rfl) runQ172
theorem isQ173 : PureC Tryz.prog (Go.Ax.frozen W) (eQ173).1 (eQ173).2.1 (eQ173).2.2 := pure_of_run (pok h (T := [eQ171]) (.cons (isQ171 h) (.nil))) (by kernel_rfl) runQ173
theorem isQ174 : PureC Tryz.prog (Go.Ax.frozen W) (eQ174).1 (eQ174).2.1 (eQ174).2.2 := pure_of_run (pok h (T := [eQ172, eQ173]) (.cons (isQ172 h) (.cons (isQ173 h) (.nil)))) (by kernel_rfl) runQ174
theorem isQ175 : PureC Tryz.prog (Go.Ax.frozen W) (eQ175).1 (eQ175).2.1 (eQ175).2.2 := pure_of_run (pok h (T := [eQ171]) (.cons (isQ171 h) (.nil))) (by kernel_rfl) runQ175
theorem isQ176 : PureC Tryz.prog (Go.Ax.frozen W) (eQ176).1 (eQ176).2.1 (eQ176).2.2 := pure_of_run (pok h (T := [eQ30, eQ32, eQ33, eQ57, eQ63, eQ71, eQ80, eQ81, eQ82, eQ156, eQ159, eQ161, eQ163, eQ164, eQ165, eQ167, eQ169, eQ170, eQ172, eQ174, eQ175]) (.cons (isQ30 h) (.cons (isQ32 h) (.cons (isQ33 h) (.cons (isQ57 h) (.cons (isQ63 h) (.cons (isQ71 h) (.cons (isQ80 h) (.cons (isQ81 h) (.cons (isQ82 h) (.cons (isQ156 h) (.cons (isQ159 h) (.cons (isQ161 h) (.cons (isQ163 h) (.cons (isQ164 h) (.cons (isQ165 h) (.cons (isQ167 h) (.cons (isQ169 h) (.cons (isQ170 h) (.cons (isQ172 h) (.cons (isQ174 h) (.cons (isQ175 h) (.nil))))))))))))))))))))))) (by kernel_rfl) runQ176
theorem isQ177 : PureC Tryz.prog (Go.Ax.frozen W) (eQ177).1 (eQ177).2.1 (eQ177).2.2 := pure_of_run (pok h (T := [eQ176]) (.cons (isQ176 h) (.nil))) (by kernel_rfl) runQ177
theorem isQ178 : PureC Tryz.prog (Go.Ax.frozen W) (eQ178).1 (eQ178).2.1 (eQ178).2.2 := pure_of_run (pok h (T := [eQ160, eQ166, eQ171, eQ177]) (.cons (isQ160 h) (.cons (isQ166 h) (.cons (isQ171 h) (.cons (isQ177 h) (.nil)))))) (by kernel_rfl) runQ178
theorem isQ179 : PureC Tryz.prog (Go.Ax.frozen W) (eQ179).1 (eQ179).2.1 (eQ179).2.2 := pure_of_run (pok h (T := []) (.nil)) (by kernel_rfl) runQ179
theorem isQ180 : PureC Tryz.prog (Go.Ax.frozen W) (eQ180).1 (eQ180).2.1 (eQ180).2.2 := pure_of_run (pok h (T := []) (.nil)) (by kernel_rfl) runQ180
theorem isQ181 : PureC Tryz.prog (Go.Ax.frozen W) (eQ181).1 (eQ181).2.1 (eQ181).2.2 := pure_of_all (pok h (T := [eQ96, eQ99, eQ100, eQ103, eQ104, eQ106, eQ107, eQ108, eQ109, eQ110, eQ111, eQ160, eQ166, eQ171, eQ177, eQ178, eQ179, eQ180]) (.cons (isQ96 h) (.cons (isQ99 h) (.cons (isQ100 h) (.cons (isQ103 h) (.cons (isQ104 h) (.cons (isQ106 h) (.cons (isQ107 h) (.cons (isQ108 h) (.cons (isQ109 h) (.cons (isQ110 h) (.cons (isQ111 h) (.cons (isQ160 h) (.cons (isQ166 h) (.cons (isQ171 h) (.cons (isQ177 h) (.cons (isQ178 h) (.cons (isQ179 h) (.cons (isQ180 h) (.nil)))))))))))))))))))) (prOr_ok (sortedEP_ok (pok h (T := []) .nil) sortFok) (prT_ok (.nil))) (by kernel_rfl) runQ181
theorem isQ182 : PureC Tryz.prog (Go.Ax.frozen W) (eQ182).1 (eQ182).2.1 (eQ182).2.2 := pure_of_run (pok h (T := []) (.nil)) (by kernel_rfl) runQ182
theorem isQ183 : PureC Tryz.prog (Go.Ax.frozen W) (eQ183).1 (eQ183).2.1 (eQ183).2.2 := pure_of_run (pok h (T := [eQ182]) (.cons (isQ182 h) (.nil))) (by kernel_rfl) runQ183
theorem isQ184 : PureC Tryz.prog (Go.Ax.frozen W) (eQ184).1 (eQ184).2.1 (eQ184).2.2 := pure_of_run (pok h (T := []) (.nil)) (by kernel_rfl) runQ184
theorem isQ185 : PureC Tryz.prog (Go.Ax.frozen W) (eQ185).1 (eQ185).2.1 (eQ185).2.2 := pure_of_run (pok h (T := [eQ35, eQ94, eQ176, eQ181, eQ183, eQ184]) (.cons (isQ35 h) (.cons (isQ94 h) (.cons (isQ176 h) (.cons (isQ181 h) (.cons (isQ183 h) (.cons (isQ184 h) (.nil)))))))) (by kernel_rfl) runQ185
theorem isQ186 : PureC Tryz.prog (Go.Ax.frozen W) (eQ186).1 (eQ186).2.1 (eQ186).2.2 := pure_of_run (pok h (T := [eQ30, eQ31, eQ32, eQ33, eQ71, eQ80, eQ118, eQ119, eQ120, eQ121, eQ156, eQ159, eQ165]) (.cons (isQ30 h) (.cons (isQ31 h) (.cons (isQ32 h) (.cons (isQ33 h) (.cons (isQ71 h) (.cons (isQ80 h) (.cons (isQ118 h) (.cons (isQ119 h) (.cons (isQ120 h) (.cons (isQ121 h) (.cons (isQ156 h) (.cons (isQ159 h) (.cons (isQ165 h) (.nil))))))))))))))) (by kernel_rfl) runQ186
theorem isQ187 : PureC Tryz.prog (Go.Ax.frozen W) (eQ187).1 (eQ187).2.1 (eQ187).2.2 := pure_of_run (pok h (T := []) (.nil)) (by kernel_rfl) runQ187
theorem isQ188 : PureC Tryz.prog (Go.Ax.frozen W) (eQ188).1 (eQ188).2.1 (eQ188).2.2 := pure_of_run (pok h (T := [eQ3, eQ6, eQ7, eQ10, eQ11, eQ12, eQ14, eQ15, eQ16, eQ17, eQ18, eQ19, eQ20, eQ23, eQ24, eQ25, eQ26, eQ29, eQ30, eQ31, eQ32, eQ33, eQ156, eQ157, eQ187]) (.cons (isQ3 h) (.cons (isQ6 h) (.cons (isQ7 h) (.cons (isQ10 h) (.cons (isQ11 h) (.cons (isQ12 h) (.cons (isQ14 h) (.cons (isQ15 h) (.cons (isQ16 h) (.cons (isQ17 h) (.cons (isQ18 h) (.cons (isQ19 h) (.cons (isQ20 h) (.cons (isQ23 h) (.cons (isQ24 h) (.cons (isQ25 h) (.cons (isQ26 h) (.cons (isQ29 h) (.cons (isQ30 h) (.cons (isQ31 h) (.cons (isQ32 h) (.cons (isQ33 h) (.cons (isQ156 h) (.cons (isQ157 h) (.cons (isQ187 h) (.nil))))))))))))))))))))))))))) (by kernel_rfl) runQ188
theorem isQ189 : PureC Tryz.prog (Go.Ax.frozen W) (eQ189).1 (eQ189).2.1 (eQ189).2.2 := pure_of_run (pok h (T := [eQ35]) (.cons (isQ35 h) (.nil))) (by kernel_rfl) runQ189
theorem isQ190 : PureC Tryz.prog (Go.Ax.frozen W) (eQ190).1 (eQ190).2.1 (eQ190).2.2 := pure_of_run (pok h (T := [eQ189]) (.cons (isQ189 h) (.nil))) (by kernel_rfl) runQ190
theorem isQ191 : PureC Tryz.prog (Go.Ax.frozen W) (eQ191).1 (eQ191).2.1 (eQ191).2.2 := pure_of_run (pok h (T := [eQ190]) (.cons (isQ190 h) (.nil))) (by kernel_rfl) runQ191
theorem isQ192 : PureC Tryz.prog (Go.Ax.frozen W) (eQ192).1 (eQ192).2.1 (eQ192).2.2 := pure_of_run (pok h (T := [eQ190]) (.cons (isQ190 h) (.nil))) (by kernel_rfl) runQ192
theorem isQ193 : PureC Tryz.prog (Go.Ax.frozen W) (eQ193).1 (eQ193).2.1 (eQ193).2.2 := pure_of_run (pok h (T := [eQ191, eQ192]) (.cons (isQ191 h) (.cons (isQ192 h) (.nil)))) (by kernel_rfl) runQ193
theorem isQ194 : PureC Tryz.prog (Go.Ax.frozen W) (eQ194).1 (eQ194).2.1 (eQ194).2.2 := pure_of_run (pok h (T := [eQ190]) (.cons (isQ190 h) (.nil))) (by kernel_rfl) runQ194
theorem isQ195 : PureC Tryz.prog (Go.Ax.frozen W) (eQ195).1 (eQ195).2.1 (eQ195).2.2 := pure_of_run (pok h (T := [eQ190]) (.cons (isQ190 h) (.nil))) (by kernel_rfl) runQ195
theorem isQ196 : PureC Tryz.prog (Go.Ax.frozen W) (eQ196).1 (eQ196).2.1 (eQ196).2.2 := pure_of_run (pok h (T := [eQ190]) (.cons (isQ190 h) (.nil))) (by kernel_rfl) runQ196
theorem isQ197 : PureC Tryz.prog (Go.Ax.frozen W) (eQ197).1 (eQ197).2.1 (eQ197).2.2 := pure_of_run (pok h (T := [eQ190]) (.cons (isQ190 h) (.nil))) (by kernel_rfl) runQ197
theorem isQ198 : PureC Tryz.prog (Go.Ax.frozen W) (eQ198).1 (eQ198).2.1 (eQ198).2.2 := pure_of_run (pok h (T := [eQ189]) (.cons (isQ189 h) (.nil))) (by kernel_rfl) runQ198
theorem isQ199 : PureC Tryz.prog (Go.Ax.frozen W) (eQ199).1 (eQ199).2.1 (eQ199).2.2 := pure_of_run (pok h (T := [eQ198]) (.cons (isQ198 h) (.nil))) (by kernel_rfl) runQ199
theorem isQ200 : PureC Tryz.prog (Go.Ax.frozen W) (eQ200).1 (eQ200).2.1 (eQ200).2.2 := pure_of_run (pok h (T := [eQ198]) (.cons (isQ198 h) (.nil))) (by kernel_rfl) runQ200
theorem isQ201 : PureC Tryz.prog (Go.Ax.frozen W) (eQ201).1 (eQ201).2.1 (eQ201).2.2 := pure_of_run (pok h (T := [eQ199, eQ200]) (.cons (isQ199 h) (.cons (isQ200 h) (.nil)))) (by kernel_rfl) runQ201
theorem isQ202 : PureC Tryz.prog (Go.Ax.frozen W) (eQ202).1 (eQ202).2.1 (eQ202).2.2 := pure_of_run (pok h (T := [eQ198]) (.cons (isQ198 h) (.nil))) (by kernel_rfl) runQ202
theorem isQ203 : PureC Tryz.prog (Go.Ax.frozen W) (eQ203).1 (eQ203).2.1 (eQ203).2.2 := pure_of_run (pok h (T := [eQ189]) (.cons (isQ189 h) (.nil))) (by kernel_rfl) runQ203
theorem isQ204 : PureC Tryz.prog (Go.Ax.frozen W) (eQ204).1 (eQ204).2.1 (eQ204).2.2 := pure_of_run (pok h (T := [eQ203]) (.cons (isQ203 h) (.nil))) (by kernel_rfl) runQ204
theorem isQ205 : PureC Tryz.prog (Go.Ax.frozen W) (eQ205).1 (eQ205).2.1 (eQ205).2.2 := pure_of_run (pok h (T := [eQ203]) (.cons (isQ203 h) (.nil))) (by kernel_rfl) runQ205
theorem isQ206 : PureC Tryz.prog (Go.Ax.frozen W) (eQ206).1 (eQ206).2.1 (eQ206).2.2 := pure_of_run (pok h (T := [eQ204, eQ205]) (.cons (isQ204 h) (.cons (isQ205 h) (.nil)))) (by kernel_rfl) runQ206
theorem isQ207 : PureC Tryz.prog (Go.Ax.frozen W) (eQ207).1 (eQ207).2.1 (eQ207).2.2 := pure_of_run (pok h (T := [eQ203]) (.cons (isQ203 h) (.nil))) (by kernel_rfl) runQ207
theorem isQ208 : PureC Tryz.prog (Go.Ax.frozen W) (eQ208).1 (eQ208).2.1 (eQ208).2.2 := pure_of_run (pok h (T := [eQ11, eQ15, eQ16, eQ25, eQ30, eQ32, eQ33, eQ43, eQ45, eQ46, eQ49, eQ50, eQ51, eQ57, eQ63, eQ156, eQ165, eQ189, eQ191, eQ193, eQ194, eQ195, eQ196, eQ197, eQ199, eQ201, eQ202, eQ204, eQ206, eQ207]) (.cons (isQ11 h) (.cons (isQ15 h) (.cons (isQ16 h) (.cons (isQ25 h) (.cons (isQ30 h) (.cons (isQ32 h) (.cons (isQ33 h) (.cons (isQ43 h) (.cons (isQ45 h) (.cons (isQ46 h) (.cons (isQ49 h) (.cons (isQ50 h) (.cons (isQ51 h) (.cons (isQ57 h) (.cons (isQ63 h) (.cons (isQ156 h) (.cons (isQ165 h) (.cons (isQ189 h) (.cons (isQ191 h) (.cons (isQ193 h) (.cons (isQ194 h) (.cons (isQ195 h) (.cons (isQ196 h) (.cons (isQ197 h) (.cons (isQ199 h) (.cons (isQ201 h) (.cons (isQ202 h) (.cons (isQ204 h) (.cons (isQ206 h) (.cons (isQ207 h) (.nil)))))))))))))))))))))))))))))))) (by kernel_rfl) runQ208
theorem isQ209 : PureC Tryz.prog (Go.Ax.frozen W) (eQ209).1 (eQ209).2.1 (eQ209).2.2 := pure_of_run (pok h (T := [eQ208]) (.cons (isQ208 h) (.nil))) (by kernel_rfl) runQ209
theorem isQ210 : PureC Tryz.prog (Go.Ax.frozen W) (eQ210).1 (eQ210).2.1 (eQ210).2.2 := pure_of_run (pok h (T := [eQ190, eQ198, eQ203, eQ209]) (.cons (isQ190 h) (.cons (isQ198 h) (.cons (isQ203 h) (.cons (isQ209 h) (.nil)))))) (by kernel_rfl) runQ210
theorem isQ211 : PureC Tryz.prog (Go.Ax.frozen W) (eQ211).1 (eQ211).2.1 (eQ211).2.2 := pure_of_run (pok h (T := []) (.nil)) (by kernel_rfl) runQ211
theorem isQ212 : PureC Tryz.prog (Go.Ax.frozen W) (eQ212).1 (eQ212).2.1 (eQ212).2.2 := pure_of_run (pok h (T := []) (.nil)) (by kernel_rfl) runQ212
theorem isQ213 : PureC Tryz.prog (Go.Ax.frozen W) (eQ213).1 (eQ213).2.1 (eQ213).2.2 := pure_of_run (pok h (T := []) (.nil)) (by kernel_rfl) runQ213
theorem isQ214 : PureC Tryz.prog (Go.Ax.frozen W) (eQ214).1 (eQ214).2.1 (eQ214).2.2 := pure_of_run (pok h (T := []) (.nil)) (by kernel_rfl) runQ214
theorem isQ215 : PureC Tryz.prog (Go.Ax.frozen W) (eQ215).1 (eQ215).2.1 (eQ215).2.2 := pure_of_all (pok h (T := [eQ100, eQ105, eQ126, eQ129, eQ130, eQ131, eQ132, eQ133, eQ138, eQ139, eQ140, eQ141, eQ142, eQ143, eQ144, eQ145, eQ179, eQ180, eQ190, eQ198, eQ203, eQ209, eQ210, eQ211, eQ212, eQ213, eQ214]) (.cons (isQ100 h) (.cons (isQ105 h) (.cons (isQ126 h) (.cons (isQ129 h) (.cons (isQ130 h) (.cons (isQ131 h) (.cons (isQ132 h) (.cons (isQ133 h) (.cons (isQ138 h) (.cons (isQ139 h) (.cons (isQ140 h) (.cons (isQ141 h) (.cons (isQ142 h) (.cons (isQ143 h) (.cons (isQ144 h) (.cons (isQ145 h) (.cons (isQ179 h) (.cons (isQ180 h) (.cons (isQ190 h) (.cons (isQ198 h) (.cons (isQ203 h) (.cons (isQ209 h) (.cons (isQ210 h) (.cons (isQ211 h) (.cons (isQ212 h) (.cons (isQ213 h) (.cons (isQ214 h) (.nil))))))))))))))))))))))))))))) (prOr_ok (sortedEP_ok (pok h (T := []) .nil) sortFok) (prT_ok (.nil))) (by kernel_rfl) runQ215
theorem isQ216 : PureC Tryz.prog (Go.Ax.frozen W) (eQ216).1 (eQ216).2.1 (eQ216).2.2 := pure_of_run (pok h (T := []) (.nil)) (by kernel_rfl) runQ216
theorem isQ217 : PureC Tryz.prog (Go.Ax.frozen W) (eQ217).1 (eQ217).2.1 (eQ217).2.2 := pure_of_run (pok h (T := [eQ216]) (.cons (isQ216 h) (.nil))) (by kernel_rfl) runQ217
theorem isQ218 : PureC Tryz.prog (Go.Ax.frozen W) (eQ218).1 (eQ218).2.1 (eQ218).2.2 := pure_of_run (pok h (T := [eQ35, eQ94, eQ149, eQ184, eQ208, eQ215, eQ217]) (.cons (isQ35 h) (.cons (isQ94 h) (.cons (isQ149 h) (.cons (isQ184 h) (.cons (isQ208 h) (.cons (isQ215 h) (.cons (isQ217 h) (.nil))))))))) (by kernel_rfl) runQ218
theorem isQ219 : PureC Tryz.prog (Go.Ax.frozen W) (eQ219).1 (eQ219).2.1 (eQ219).2.2 := pure_of_run (pok h (T := [eQ35]) (.cons (isQ35 h) (.nil))) (by kernel_rfl) runQ219
theorem isQ220 : PureC Tryz.prog (Go.Ax.frozen W) (eQ220).1 (eQ220).2.1 (eQ220).2.2 := pure_of_run (pok h (T := []) (.nil)) (by kernel_rfl) runQ220
theorem isQ221 : PureC Tryz.prog (Go.Ax.frozen W) (eQ221).1 (eQ221).2.1 (eQ221).2.2 := pure_of_run (pok h (T := [eQ11, eQ15, eQ16, eQ25, eQ32, eQ33, eQ45, eQ118, eQ119, eQ120, eQ121, eQ122, eQ151, eQ153, eQ156, eQ165, eQ219, eQ220]) (.cons (isQ11 h) (.cons (isQ15 h) (.cons (isQ16 h) (.cons (isQ25 h) (.cons (isQ32 h) (.cons (isQ33 h) (.cons (isQ45 h) (.cons (isQ118 h) (.cons (isQ119 h) (.cons (isQ120 h) (.cons (isQ121 h) (.cons (isQ122 h) (.cons (isQ151 h) (.cons (isQ153 h) (.cons (isQ156 h) (.cons (isQ165 h) (.cons (isQ219 h) (.cons (isQ220 h) (.nil)))))))))))))))))))) (by kernel_rfl) runQ221
theorem tabsQ : AllPure Tryz.prog (Go.Ax.frozen W) [eQ34, eQ65, eQ69, eQ73, eQ116, eQ124, eQ150, eQ154, eQ158, eQ185, eQ186, eQ188, eQ218, eQ221] := .cons (isQ34 h) (.cons (isQ65 h) (.cons (isQ69 h) (.cons (isQ73 h) (.cons (isQ116 h) (.cons (isQ124 h) (.cons (isQ150 h) (.cons (isQ154 h) (.cons (isQ158 h) (.cons (isQ185 h) (.cons (isQ186 h) (.cons (isQ188 h) (.cons (isQ218 h) (.cons (isQ221 h) (.nil))))))))))))))
end
abbrev tabLQ : Tab := [eQ34, eQ65, eQ69, eQ73, eQ116, eQ124, eQ150, eQ154, eQ158, eQ185, eQ186, eQ188, eQ218, eQ221]
end Go.Proofs.YtlimihfdpfgedaaGreatDoor
