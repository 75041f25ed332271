/- ReloadNames: the law's own run, and that all told calls are right. -/
import Derived.Test.YtmmjfmbpilfehaaGreatDoorRR0
import Derived.Test.YtmmjfmbpilfehaaGreatDoorRR1
import Derived.Test.YtmmjfmbpilfehaaGreatDoorRR2
import Derived.Test.YtmmjfmbpilfehaaGreatDoorRR3
import Derived.Test.YtmmjfmbpilfehaaGreatDoorRR4
import Derived.Test.YtmmjfmbpilfehaaGreatDoorRR5
import Derived.Test.YtmmjfmbpilfehaaGreatDoorRR6
import Derived.Test.YtmmjfmbpilfehaaGreatDoorRR7
import Derived.Test.YtmmjfmbpilfehaaGreatDoorRR8
import Derived.Test.YtmmjfmbpilfehaaGreatDoorRR9
import Derived.Test.YtmmjfmbpilfehaaGreatDoorRR10
import Derived.Test.YtmmjfmbpilfehaaGreatDoorRR11
import Derived.Test.YtmmjfmbpilfehaaGreatDoorRR12
import Derived.Test.YtmmjfmbpilfehaaGreatDoorRR13
import Derived.Test.YtmmjfmbpilfehaaGreatDoorRR14
import Derived.Test.YtmmjfmbpilfehaaGreatDoorRR15
import Derived.Test.YtmmjfmbpilfehaaGreatDoorRR16
import Derived.Test.YtmmjfmbpilfehaaGreatDoorRR17
import Derived.Test.YtmmjfmbpilfehaaGreatDoorRR18
import Derived.Test.YtmmjfmbpilfehaaGreatDoorRR19
import Derived.Test.YtmmjfmbpilfehaaGreatDoorRR20
import Derived.Test.YtmmjfmbpilfehaaGreatDoorRR21
import Derived.Test.YtmmjfmbpilfehaaGreatDoorRR22
import Derived.Test.YtmmjfmbpilfehaaGreatDoorRR23
import Derived.Test.YtmmjfmbpilfehaaGreatDoorRR24
import Derived.Test.YtmmjfmbpilfehaaGreatDoorRR25
import Derived.Test.YtmmjfmbpilfehaaGreatDoorRR26
import Derived.Test.YtmmjfmbpilfehaaGreatDoorRR27
import Derived.Test.YtmmjfmbpilfehaaGreatDoorRR28
import Derived.Test.YtmmjfmbpilfehaaGreatDoorRR29
import Derived.Test.YtmmjfmbpilfehaaGreatDoorRR30
import Derived.Test.YtmmjfmbpilfehaaGreatDoorRR31
import Derived.Test.YtmmjfmbpilfehaaGreatDoorRR32
import Derived.Test.YtmmjfmbpilfehaaGreatDoorRR33
import Derived.Test.YtmmjfmbpilfehaaGreatDoorRR34
import Derived.Test.YtmmjfmbpilfehaaGreatDoorRR35
import Derived.Test.YtmmjfmbpilfehaaGreatDoorRR36
namespace Go.Proofs.YtmmjfmbpilfehaaGreatDoor
open Go.Ax
theorem runR : okTrue (call Tryz.prog (cx [eR30, eR85, eR87, eR89, eR90, eR92, eR139, eR141, eR145, eR150, eR213, eR217, eR225, eR323, eR326, eR329, eR347, eR348, eR351, eR354, eR384, eR385, eR388, eR408, eR409]) 20000 3 [] h0) = true := by kernel_rfl
section
variable {W : World} (h : laidMetH Tryz.prog laidR W)
include h
theorem isR0 : PureC Tryz.prog (Go.Ax.frozen W) (eR0).1 (eR0).2.1 (eR0).2.2 := pure_of_run (pok h (T := []) (.nil)) (by kernel_rfl) runR0
theorem isR1 : PureC Tryz.prog (Go.Ax.frozen W) (eR1).1 (eR1).2.1 (eR1).2.2 := pure_of_run (pok h (T := []) (.nil)) (by kernel_rfl) runR1
theorem isR2 : PureC Tryz.prog (Go.Ax.frozen W) (eR2).1 (eR2).2.1 (eR2).2.2 := pure_of_run (pok h (T := [eR1]) (.cons (isR1 h) (.nil))) (by kernel_rfl) runR2
theorem isR3 : PureC Tryz.prog (Go.Ax.frozen W) (eR3).1 (eR3).2.1 (eR3).2.2 := pure_of_run (pok h (T := [eR2]) (.cons (isR2 h) (.nil))) (by kernel_rfl) runR3
theorem isR4 : PureC Tryz.prog (Go.Ax.frozen W) (eR4).1 (eR4).2.1 (eR4).2.2 := pure_of_run (pok h (T := []) (.nil)) (by kernel_rfl) runR4
theorem isR5 : PureC Tryz.prog (Go.Ax.frozen W) (eR5).1 (eR5).2.1 (eR5).2.2 := pure_of_run (pok h (T := [eR4]) (.cons (isR4 h) (.nil))) (by kernel_rfl) runR5
theorem isR6 : PureC Tryz.prog (Go.Ax.frozen W) (eR6).1 (eR6).2.1 (eR6).2.2 := pure_of_run (pok h (T := [eR5]) (.cons (isR5 h) (.nil))) (by kernel_rfl) runR6
theorem isR7 : PureC Tryz.prog (Go.Ax.frozen W) (eR7).1 (eR7).2.1 (eR7).2.2 := pure_of_run (pok h (T := []) (.nil)) (by kernel_rfl) runR7
theorem isR8 : PureC Tryz.prog (Go.Ax.frozen W) (eR8).1 (eR8).2.1 (eR8).2.2 := pure_of_run (pok h (T := [eR7]) (.cons (isR7 h) (.nil))) (by kernel_rfl) runR8
theorem isR9 : PureC Tryz.prog (Go.Ax.frozen W) (eR9).1 (eR9).2.1 (eR9).2.2 := pure_of_run (pok h (T := [eR8]) (.cons (isR8 h) (.nil))) (by kernel_rfl) runR9
theorem isR10 : PureC Tryz.prog (Go.Ax.frozen W) (eR10).1 (eR10).2.1 (eR10).2.2 := pure_of_run (pok h (T := [eR2]) (.cons (isR2 h) (.nil))) (by kernel_rfl) runR10
theorem isR11 : PureC Tryz.prog (Go.Ax.frozen W) (eR11).1 (eR11).2.1 (eR11).2.2 := pure_of_run (pok h (T := []) (.nil)) (by kernel_rfl) runR11
theorem isR12 : PureC Tryz.prog (Go.Ax.frozen W) (eR12).1 (eR12).2.1 (eR12).2.2 := pure_of_run (pok h (T := []) (.nil)) (by kernel_rfl) runR12
theorem isR13 : PureC Tryz.prog (Go.Ax.frozen W) (eR13).1 (eR13).2.1 (eR13).2.2 := pure_of_run (pok h (T := []) (.nil)) (by kernel_rfl) runR13
theorem isR14 : PureC Tryz.prog (Go.Ax.frozen W) (eR14).1 (eR14).2.1 (eR14).2.2 := pure_of_run (pok h (T := [eR13]) (.cons (isR13 h) (.nil))) (by kernel_rfl) runR14
theorem isR15 : PureC Tryz.prog (Go.Ax.frozen W) (eR15).1 (eR15).2.1 (eR15).2.2 := pure_of_run (pok h (T := [eR14]) (.cons (isR14 h) (.nil))) (by kernel_rfl) runR15
theorem isR16 : PureC Tryz.prog (Go.Ax.frozen W) (eR16).1 (eR16).2.1 (eR16).2.2 := pure_of_run (pok h (T := [eR8]) (.cons (isR8 h) (.nil))) (by kernel_rfl) runR16
theorem isR17 : PureC Tryz.prog (Go.Ax.frozen W) (eR17).1 (eR17).2.1 (eR17).2.2 := pure_of_run (pok h (T := []) (.nil)) (by kernel_rfl) runR17
theorem isR18 : PureC Tryz.prog (Go.Ax.frozen W) (eR18).1 (eR18).2.1 (eR18).2.2 := pure_of_run (pok h (T := []) (.nil)) (by kernel_rfl) runR18
theorem isR19 : PureC Tryz.prog (Go.Ax.frozen W) (eR19).1 (eR19).2.1 (eR19).2.2 := pure_of_run (pok h (T := []) (.nil)) (by kernel_rfl) runR19
theorem isR20 : PureC Tryz.prog (Go.Ax.frozen W) (eR20).1 (eR20).2.1 (eR20).2.2 := pure_of_run (pok h (T := []) (.nil)) (by kernel_rfl) runR20
theorem isR21 : PureC Tryz.prog (Go.Ax.frozen W) (eR21).1 (eR21).2.1 (eR21).2.2 := pure_of_run (pok h (T := [eR5]) (.cons (isR5 h) (.nil))) (by kernel_rfl) runR21
theorem isR22 : PureC Tryz.prog (Go.Ax.frozen W) (eR22).1 (eR22).2.1 (eR22).2.2 := pure_of_run (pok h (T := []) (.nil)) (by kernel_rfl) runR22
theorem isR23 : PureC Tryz.prog (Go.Ax.frozen W) (eR23).1 (eR23).2.1 (eR23).2.2 := pure_of_run (pok h (T := [eR22]) (.cons (isR22 h) (.nil))) (by kernel_rfl) runR23
theorem isR24 : PureC Tryz.prog (Go.Ax.frozen W) (eR24).1 (eR24).2.1 (eR24).2.2 := pure_of_run (pok h (T := [eR23]) (.cons (isR23 h) (.nil))) (by kernel_rfl) runR24
theorem isR25 : PureC Tryz.prog (Go.Ax.frozen W) (eR25).1 (eR25).2.1 (eR25).2.2 := pure_of_run (pok h (T := []) (.nil)) (by kernel_rfl) runR25
theorem isR26 : PureC Tryz.prog (Go.Ax.frozen W) (eR26).1 (eR26).2.1 (eR26).2.2 := pure_of_run (pok h (T := []) (.nil)) (by kernel_rfl) runR26
theorem isR27 : PureC Tryz.prog (Go.Ax.frozen W) (eR27).1 (eR27).2.1 (eR27).2.2 := pure_of_run (pok h (T := []) (.nil)) (by kernel_rfl) runR27
theorem isR28 : PureC Tryz.prog (Go.Ax.frozen W) (eR28).1 (eR28).2.1 (eR28).2.2 := pure_of_run (pok h (T := []) (.nil)) (by kernel_rfl) runR28
theorem isR29 : PureC Tryz.prog (Go.Ax.frozen W) (eR29).1 (eR29).2.1 (eR29).2.2 := pure_of_run (pok h (T := [eR5]) (.cons (isR5 h) (.nil))) (by kernel_rfl) runR29
theorem isR30 : PureC Tryz.prog (Go.Ax.frozen W) (eR30).1 (eR30).2.1 (eR30).2.2 := pure_of_run (pok h (T := [eR0, eR3, eR4, eR6, eR9, eR10, eR11, eR12, eR15, eR16, eR17, eR18, eR19, eR20, eR21, eR24, eR25, eR26, eR27, eR28, eR29]) (.cons (isR0 h) (.cons (isR3 h) (.cons (isR4 h) (.cons (isR6 h) (.cons (isR9 h) (.cons (isR10 h) (.cons (isR11 h) (.cons (isR12 h) (.cons (isR15 h) (.cons (isR16 h) (.cons (isR17 h) (.cons (isR18 h) (.cons (isR19 h) (.cons (isR20 h) (.cons (isR21 h) (.cons (isR24 h) (.cons (isR25 h) (.cons (isR26 h) (.cons (isR27 h) (.cons (isR28 h) (.cons (isR29 h) (.nil))))))))))))))))))))))) (by kernel_rfl) runR30
theorem isR31 : PureC Tryz.prog (Go.Ax.frozen W) (eR31).1 (eR31).2.1 (eR31).2.2 := pure_of_run (pok h (T := []) (.nil)) (by kernel_rfl) runR31
theorem isR32 : PureC Tryz.prog (Go.Ax.frozen W) (eR32).1 (eR32).2.1 (eR32).2.2 := pure_of_run (pok h (T := [eR31]) (.cons (isR31 h) (.nil))) (by kernel_rfl) runR32
theorem isR33 : PureC Tryz.prog (Go.Ax.frozen W) (eR33).1 (eR33).2.1 (eR33).2.2 := pure_of_run (pok h (T := [eR32]) (.cons (isR32 h) (.nil))) (by kernel_rfl) runR33
theorem isR34 : PureC Tryz.prog (Go.Ax.frozen W) (eR34).1 (eR34).2.1 (eR34).2.2 := pure_of_run (pok h (T := [eR33]) (.cons (isR33 h) (.nil))) (by kernel_rfl) runR34
theorem isR35 : PureC Tryz.prog (Go.Ax.frozen W) (eR35).1 (eR35).2.1 (eR35).2.2 := pure_of_run (pok h (T := [eR33]) (.cons (isR33 h) (.nil))) (by kernel_rfl) runR35
theorem isR36 : PureC Tryz.prog (Go.Ax.frozen W) (eR36).1 (eR36).2.1 (eR36).2.2 := pure_of_run (pok h (T := [eR34, eR35]) (.cons (isR34 h) (.cons (isR35 h) (.nil)))) (by kernel_rfl) runR36
theorem isR37 : PureC Tryz.prog (Go.Ax.frozen W) (eR37).1 (eR37).2.1 (eR37).2.2 := pure_of_run (pok h (T := [eR33]) (.cons (isR33 h) (.nil))) (by kernel_rfl) runR37
theorem isR38 : PureC Tryz.prog (Go.Ax.frozen W) (eR38).1 (eR38).2.1 (eR38).2.2 := pure_of_run (pok h (T := []) (.nil)) (by kernel_rfl) runR38
theorem isR39 : PureC Tryz.prog (Go.Ax.frozen W) (eR39).1 (eR39).2.1 (eR39).2.2 := pure_of_run (pok h (T := []) (.nil)) (by kernel_rfl) runR39
theorem isR40 : PureC Tryz.prog (Go.Ax.frozen W) (eR40).1 (eR40).2.1 (eR40).2.2 := pure_of_run (pok h (T := [eR32]) (.cons (isR32 h) (.nil))) (by kernel_rfl) runR40
theorem isR41 : PureC Tryz.prog (Go.Ax.frozen W) (eR41).1 (eR41).2.1 (eR41).2.2 := pure_of_run (pok h (T := [eR40]) (.cons (isR40 h) (.nil))) (by kernel_rfl) runR41
theorem isR42 : PureC Tryz.prog (Go.Ax.frozen W) (eR42).1 (eR42).2.1 (eR42).2.2 := pure_of_run (pok h (T := [eR40]) (.cons (isR40 h) (.nil))) (by kernel_rfl) runR42
theorem isR43 : PureC Tryz.prog (Go.Ax.frozen W) (eR43).1 (eR43).2.1 (eR43).2.2 := pure_of_run (pok h (T := [eR41, eR42]) (.cons (isR41 h) (.cons (isR42 h) (.nil)))) (by kernel_rfl) runR43
theorem isR44 : PureC Tryz.prog (Go.Ax.frozen W) (eR44).1 (eR44).2.1 (eR44).2.2 := pure_of_run (pok h (T := [eR40]) (.cons (isR40 h) (.nil))) (by kernel_rfl) runR44
theorem isR45 : PureC Tryz.prog (Go.Ax.frozen W) (eR45).1 (eR45).2.1 (eR45).2.2 := pure_of_run (pok h (T := []) (.nil)) (by kernel_rfl) runR45
theorem isR46 : PureC Tryz.prog (Go.Ax.frozen W) (eR46).1 (eR46).2.1 (eR46).2.2 := pure_of_run (pok h (T := []) (.nil)) (by kernel_rfl) runR46
theorem isR47 : PureC Tryz.prog (Go.Ax.frozen W) (eR47).1 (eR47).2.1 (eR47).2.2 := pure_of_run (pok h (T := [eR32]) (.cons (isR32 h) (.nil))) (by kernel_rfl) runR47
theorem isR48 : PureC Tryz.prog (Go.Ax.frozen W) (eR48).1 (eR48).2.1 (eR48).2.2 := pure_of_run (pok h (T := [eR47]) (.cons (isR47 h) (.nil))) (by kernel_rfl) runR48
theorem isR49 : PureC Tryz.prog (Go.Ax.frozen W) (eR49).1 (eR49).2.1 (eR49).2.2 := pure_of_run (pok h (T := [eR47]) (.cons (isR47 h) (.nil))) (by kernel_rfl) runR49
theorem isR50 : PureC Tryz.prog (Go.Ax.frozen W) (eR50).1 (eR50).2.1 (eR50).2.2 := pure_of_run (pok h (T := [eR48, eR49]) (.cons (isR48 h) (.cons (isR49 h) (.nil)))) (by kernel_rfl) runR50
theorem isR51 : PureC Tryz.prog (Go.Ax.frozen W) (eR51).1 (eR51).2.1 (eR51).2.2 := pure_of_run (pok h (T := [eR47]) (.cons (isR47 h) (.nil))) (by kernel_rfl) runR51
theorem isR52 : PureC Tryz.prog (Go.Ax.frozen W) (eR52).1 (eR52).2.1 (eR52).2.2 := pure_of_run (pok h (T := []) (.nil)) (by kernel_rfl) runR52
theorem isR53 : PureC Tryz.prog (Go.Ax.frozen W) (eR53).1 (eR53).2.1 (eR53).2.2 := pure_of_run (pok h (T := []) (.nil)) (by kernel_rfl) runR53
theorem isR54 : PureC Tryz.prog (Go.Ax.frozen W) (eR54).1 (eR54).2.1 (eR54).2.2 := pure_of_run (pok h (T := []) (.nil)) (by kernel_rfl) runR54
theorem isR55 : PureC Tryz.prog (Go.Ax.frozen W) (eR55).1 (eR55).2.1 (eR55).2.2 := pure_of_run (pok h (T := [eR11, eR17, eR18, eR19, eR25, eR27, eR32, eR34, eR36, eR37, eR38, eR39, eR41, eR43, eR44, eR45, eR46, eR48, eR50, eR51, eR52, eR53, eR54]) (.cons (isR11 h) (.cons (isR17 h) (.cons (isR18 h) (.cons (isR19 h) (.cons (isR25 h) (.cons (isR27 h) (.cons (isR32 h) (.cons (isR34 h) (.cons (isR36 h) (.cons (isR37 h) (.cons (isR38 h) (.cons (isR39 h) (.cons (isR41 h) (.cons (isR43 h) (.cons (isR44 h) (.cons (isR45 h) (.cons (isR46 h) (.cons (isR48 h) (.cons (isR50 h) (.cons (isR51 h) (.cons (isR52 h) (.cons (isR53 h) (.cons (isR54 h) (.nil))))))))))))))))))))))))) (by kernel_rfl) runR55
theorem isR56 : PureC Tryz.prog (Go.Ax.frozen W) (eR56).1 (eR56).2.1 (eR56).2.2 := pure_of_run (pok h (T := [eR55]) (.cons (isR55 h) (.nil))) (by kernel_rfl) runR56
theorem isR57 : PureC Tryz.prog (Go.Ax.frozen W) (eR57).1 (eR57).2.1 (eR57).2.2 := pure_of_run (pok h (T := [eR31]) (.cons (isR31 h) (.nil))) (by kernel_rfl) runR57
theorem isR58 : PureC Tryz.prog (Go.Ax.frozen W) (eR58).1 (eR58).2.1 (eR58).2.2 := pure_of_run (pok h (T := []) (.nil)) (by kernel_rfl) runR58
theorem isR59 : PureC Tryz.prog (Go.Ax.frozen W) (eR59).1 (eR59).2.1 (eR59).2.2 := pure_of_run (pok h (T := [eR57, eR58]) (.cons (isR57 h) (.cons (isR58 h) (.nil)))) (by kernel_rfl) runR59
theorem isR60 : PureC Tryz.prog (Go.Ax.frozen W) (eR60).1 (eR60).2.1 (eR60).2.2 := pure_of_run (pok h (T := []) (.nil)) (by kernel_rfl) runR60
theorem isR61 : PureC Tryz.prog (Go.Ax.frozen W) (eR61).1 (eR61).2.1 (eR61).2.2 := pure_of_run (pok h (T := [eR33, eR40, eR47, eR56, eR59]) (.cons (isR33 h) (.cons (isR40 h) (.cons (isR47 h) (.cons (isR56 h) (.cons (isR59 h) (.nil))))))) (by kernel_rfl) runR61
theorem isR62 : PureC Tryz.prog (Go.Ax.frozen W) (eR62).1 (eR62).2.1 (eR62).2.2 := pure_of_run (pok h (T := []) (.nil)) (by kernel_rfl) runR62
theorem isR63 : PureC Tryz.prog (Go.Ax.frozen W) (eR63).1 (eR63).2.1 (eR63).2.2 := pure_of_run (pok h (T := [eR62]) (.cons (isR62 h) (.nil))) (by kernel_rfl) runR63
theorem isR64 : PureC Tryz.prog (Go.Ax.frozen W) (eR64).1 (eR64).2.1 (eR64).2.2 := pure_of_run (pok h (T := []) (.nil)) (by kernel_rfl) runR64
theorem isR65 : PureC Tryz.prog (Go.Ax.frozen W) (eR65).1 (eR65).2.1 (eR65).2.2 := pure_of_run (pok h (T := []) (.nil)) (by kernel_rfl) runR65
theorem isR66 : PureC Tryz.prog (Go.Ax.frozen W) (eR66).1 (eR66).2.1 (eR66).2.2 := pure_of_run (pok h (T := []) (.nil)) (by kernel_rfl) runR66
theorem isR67 : PureC Tryz.prog (Go.Ax.frozen W) (eR67).1 (eR67).2.1 (eR67).2.2 := pure_of_run (pok h (T := [eR62]) (.cons (isR62 h) (.nil))) (by kernel_rfl) runR67
theorem isR68 : PureC Tryz.prog (Go.Ax.frozen W) (eR68).1 (eR68).2.1 (eR68).2.2 := pure_of_run (pok h (T := [eR62]) (.cons (isR62 h) (.nil))) (by kernel_rfl) runR68
theorem isR69 : PureC Tryz.prog (Go.Ax.frozen W) (eR69).1 (eR69).2.1 (eR69).2.2 := pure_of_run (pok h (T := []) (.nil)) (by kernel_rfl) runR69
theorem isR70 : PureC Tryz.prog (Go.Ax.frozen W) (eR70).1 (eR70).2.1 (eR70).2.2 := pure_of_run (pok h (T := []) (.nil)) (by kernel_rfl) runR70
theorem isR71 : PureC Tryz.prog (Go.Ax.frozen W) (eR71).1 (eR71).2.1 (eR71).2.2 := pure_of_run (pok h (T := []) (.nil)) (by kernel_rfl) runR71
theorem isR72 : PureC Tryz.prog (Go.Ax.frozen W) (eR72).1 (eR72).2.1 (eR72).2.2 := pure_of_run (pok h (T := [eR62]) (.cons (isR62 h) (.nil))) (by kernel_rfl) runR72
theorem isR73 : PureC Tryz.prog (Go.Ax.frozen W) (eR73).1 (eR73).2.1 (eR73).2.2 := pure_of_run (pok h (T := [eR62]) (.cons (isR62 h) (.nil))) (by kernel_rfl) runR73
theorem isR74 : PureC Tryz.prog (Go.Ax.frozen W) (eR74).1 (eR74).2.1 (eR74).2.2 := pure_of_run (pok h (T := [eR62]) (.cons (isR62 h) (.nil))) (by kernel_rfl) runR74
theorem isR75 : PureC Tryz.prog (Go.Ax.frozen W) (eR75).1 (eR75).2.1 (eR75).2.2 := pure_of_run (pok h (T := [eR62]) (.cons (isR62 h) (.nil))) (by kernel_rfl) runR75
theorem isR76 : PureC Tryz.prog (Go.Ax.frozen W) (eR76).1 (eR76).2.1 (eR76).2.2 := pure_of_run (pok h (T := [eR62]) (.cons (isR62 h) (.nil))) (by kernel_rfl) runR76
theorem isR77 : PureC Tryz.prog (Go.Ax.frozen W) (eR77).1 (eR77).2.1 (eR77).2.2 := pure_of_run (pok h (T := [eR62]) (.cons (isR62 h) (.nil))) (by kernel_rfl) runR77
theorem isR78 : PureC Tryz.prog (Go.Ax.frozen W) (eR78).1 (eR78).2.1 (eR78).2.2 := pure_of_run (pok h (T := [eR62]) (.cons (isR62 h) (.nil))) (by kernel_rfl) runR78
theorem isR79 : PureC Tryz.prog (Go.Ax.frozen W) (eR79).1 (eR79).2.1 (eR79).2.2 := pure_of_run (pok h (T := [eR62]) (.cons (isR62 h) (.nil))) (by kernel_rfl) runR79
theorem isR80 : PureC Tryz.prog (Go.Ax.frozen W) (eR80).1 (eR80).2.1 (eR80).2.2 := pure_of_run (pok h (T := [eR62]) (.cons (isR62 h) (.nil))) (by kernel_rfl) runR80
theorem isR81 : PureC Tryz.prog (Go.Ax.frozen W) (eR81).1 (eR81).2.1 (eR81).2.2 := pure_of_all (pok h (T := [eR33, eR40, eR47, eR56, eR59, eR60, eR61, eR63, eR64, eR65, eR66, eR67, eR68, eR69, eR70, eR71, eR72, eR73, eR74, eR75, eR76, eR77, eR78, eR79, eR80]) (.cons (isR33 h) (.cons (isR40 h) (.cons (isR47 h) (.cons (isR56 h) (.cons (isR59 h) (.cons (isR60 h) (.cons (isR61 h) (.cons (isR63 h) (.cons (isR64 h) (.cons (isR65 h) (.cons (isR66 h) (.cons (isR67 h) (.cons (isR68 h) (.cons (isR69 h) (.cons (isR70 h) (.cons (isR71 h) (.cons (isR72 h) (.cons (isR73 h) (.cons (isR74 h) (.cons (isR75 h) (.cons (isR76 h) (.cons (isR77 h) (.cons (isR78 h) (.cons (isR79 h) (.cons (isR80 h) (.nil))))))))))))))))))))))))))) (by kernel_rfl) runR81
theorem isR82 : PureC Tryz.prog (Go.Ax.frozen W) (eR82).1 (eR82).2.1 (eR82).2.2 := pure_of_run (pok h (T := [eR33, eR40, eR47, eR56, eR59]) (.cons (isR33 h) (.cons (isR40 h) (.cons (isR47 h) (.cons (isR56 h) (.cons (isR59 h) (.nil))))))) (by kernel_rfl) runR82
theorem isR83 : PureC Tryz.prog (Go.Ax.frozen W) (eR83).1 (eR83).2.1 (eR83).2.2 := pure_of_run (pok h (T := []) (.nil)) (by kernel_rfl) runR83
theorem isR84 : PureC Tryz.prog (Go.Ax.frozen W) (eR84).1 (eR84).2.1 (eR84).2.2 := pure_of_run (pok h (T := [eR83]) (.cons (isR83 h) (.nil))) (by kernel_rfl) runR84
theorem isR85 : PureC Tryz.prog (Go.Ax.frozen W) (eR85).1 (eR85).2.1 (eR85).2.2 := pure_of_run (pok h (T := [eR40, eR55, eR81, eR82, eR84]) (.cons (isR40 h) (.cons (isR55 h) (.cons (isR81 h) (.cons (isR82 h) (.cons (isR84 h) (.nil))))))) (by kernel_rfl) runR85
theorem isR86 : PureC Tryz.prog (Go.Ax.frozen W) (eR86).1 (eR86).2.1 (eR86).2.2 := pure_of_run (pok h (T := [eR32]) (.cons (isR32 h) (.nil))) (by kernel_rfl) runR86
theorem isR87 : PureC Tryz.prog (Go.Ax.frozen W) (eR87).1 (eR87).2.1 (eR87).2.2 := pure_of_run (pok h (T := [eR40, eR55, eR81, eR82, eR84, eR86]) (.cons (isR40 h) (.cons (isR55 h) (.cons (isR81 h) (.cons (isR82 h) (.cons (isR84 h) (.cons (isR86 h) (.nil)))))))) (by kernel_rfl) runR87
theorem isR88 : PureC Tryz.prog (Go.Ax.frozen W) (eR88).1 (eR88).2.1 (eR88).2.2 := pure_of_run (pok h (T := [eR32]) (.cons (isR32 h) (.nil))) (by kernel_rfl) runR88
theorem isR89 : PureC Tryz.prog (Go.Ax.frozen W) (eR89).1 (eR89).2.1 (eR89).2.2 := pure_of_run (pok h (T := [eR40, eR55, eR88]) (.cons (isR40 h) (.cons (isR55 h) (.cons (isR88 h) (.nil))))) (by kernel_rfl) runR89
theorem isR90 : PureC Tryz.prog (Go.Ax.frozen W) (eR90).1 (eR90).2.1 (eR90).2.2 := pure_of_run (pok h (T := [eR40, eR55]) (.cons (isR40 h) (.cons (isR55 h) (.nil)))) (by kernel_rfl) runR90
theorem isR91 : PureC Tryz.prog (Go.Ax.frozen W) (eR91).1 (eR91).2.1 (eR91).2.2 := pure_of_run (pok h (T := []) (.nil)) (by kernel_rfl) runR91
theorem isR92 : PureC Tryz.prog (Go.Ax.frozen W) (eR92).1 (eR92).2.1 (eR92).2.2 := pure_of_run (pok h (T := [eR3, eR4, eR6, eR9, eR10, eR11, eR12, eR15, eR16, eR17, eR18, eR19, eR20, eR21, eR24, eR25, eR26, eR27, eR28, eR29, eR91]) (.cons (isR3 h) (.cons (isR4 h) (.cons (isR6 h) (.cons (isR9 h) (.cons (isR10 h) (.cons (isR11 h) (.cons (isR12 h) (.cons (isR15 h) (.cons (isR16 h) (.cons (isR17 h) (.cons (isR18 h) (.cons (isR19 h) (.cons (isR20 h) (.cons (isR21 h) (.cons (isR24 h) (.cons (isR25 h) (.cons (isR26 h) (.cons (isR27 h) (.cons (isR28 h) (.cons (isR29 h) (.cons (isR91 h) (.nil))))))))))))))))))))))) (by kernel_rfl) runR92
theorem isR93 : PureC Tryz.prog (Go.Ax.frozen W) (eR93).1 (eR93).2.1 (eR93).2.2 := pure_of_run (pok h (T := [eR31]) (.cons (isR31 h) (.nil))) (by kernel_rfl) runR93
theorem isR94 : PureC Tryz.prog (Go.Ax.frozen W) (eR94).1 (eR94).2.1 (eR94).2.2 := pure_of_run (pok h (T := [eR93]) (.cons (isR93 h) (.nil))) (by kernel_rfl) runR94
theorem isR95 : PureC Tryz.prog (Go.Ax.frozen W) (eR95).1 (eR95).2.1 (eR95).2.2 := pure_of_run (pok h (T := [eR94]) (.cons (isR94 h) (.nil))) (by kernel_rfl) runR95
theorem isR96 : PureC Tryz.prog (Go.Ax.frozen W) (eR96).1 (eR96).2.1 (eR96).2.2 := pure_of_run (pok h (T := [eR94]) (.cons (isR94 h) (.nil))) (by kernel_rfl) runR96
theorem isR97 : PureC Tryz.prog (Go.Ax.frozen W) (eR97).1 (eR97).2.1 (eR97).2.2 := pure_of_run (pok h (T := [eR95, eR96]) (.cons (isR95 h) (.cons (isR96 h) (.nil)))) (by kernel_rfl) runR97
theorem isR98 : PureC Tryz.prog (Go.Ax.frozen W) (eR98).1 (eR98).2.1 (eR98).2.2 := pure_of_run (pok h (T := [eR94]) (.cons (isR94 h) (.nil))) (by kernel_rfl) runR98
theorem isR99 : PureC Tryz.prog (Go.Ax.frozen W) (eR99).1 (eR99).2.1 (eR99).2.2 := pure_of_run (pok h (T := [eR93]) (.cons (isR93 h) (.nil))) (by kernel_rfl) runR99
theorem isR100 : PureC Tryz.prog (Go.Ax.frozen W) (eR100).1 (eR100).2.1 (eR100).2.2 := pure_of_run (pok h (T := [eR99]) (.cons (isR99 h) (.nil))) (by kernel_rfl) runR100
theorem isR101 : PureC Tryz.prog (Go.Ax.frozen W) (eR101).1 (eR101).2.1 (eR101).2.2 := pure_of_run (pok h (T := [eR99]) (.cons (isR99 h) (.nil))) (by kernel_rfl) runR101
theorem isR102 : PureC Tryz.prog (Go.Ax.frozen W) (eR102).1 (eR102).2.1 (eR102).2.2 := pure_of_run (pok h (T := [eR100, eR101]) (.cons (isR100 h) (.cons (isR101 h) (.nil)))) (by kernel_rfl) runR102
theorem isR103 : PureC Tryz.prog (Go.Ax.frozen W) (eR103).1 (eR103).2.1 (eR103).2.2 := pure_of_run (pok h (T := [eR99]) (.cons (isR99 h) (.nil))) (by kernel_rfl) runR103
theorem isR104 : PureC Tryz.prog (Go.Ax.frozen W) (eR104).1 (eR104).2.1 (eR104).2.2 := pure_of_run (pok h (T := [eR93]) (.cons (isR93 h) (.nil))) (by kernel_rfl) runR104
theorem isR105 : PureC Tryz.prog (Go.Ax.frozen W) (eR105).1 (eR105).2.1 (eR105).2.2 := pure_of_run (pok h (T := [eR104]) (.cons (isR104 h) (.nil))) (by kernel_rfl) runR105
theorem isR106 : PureC Tryz.prog (Go.Ax.frozen W) (eR106).1 (eR106).2.1 (eR106).2.2 := pure_of_run (pok h (T := [eR104]) (.cons (isR104 h) (.nil))) (by kernel_rfl) runR106
theorem isR107 : PureC Tryz.prog (Go.Ax.frozen W) (eR107).1 (eR107).2.1 (eR107).2.2 := pure_of_run (pok h (T := [eR105, eR106]) (.cons (isR105 h) (.cons (isR106 h) (.nil)))) (by kernel_rfl) runR107
theorem isR108 : PureC Tryz.prog (Go.Ax.frozen W) (eR108).1 (eR108).2.1 (eR108).2.2 := pure_of_run (pok h (T := [eR104]) (.cons (isR104 h) (.nil))) (by kernel_rfl) runR108
theorem isR109 : PureC Tryz.prog (Go.Ax.frozen W) (eR109).1 (eR109).2.1 (eR109).2.2 := pure_of_run (pok h (T := []) (.nil)) (by kernel_rfl) runR109
theorem isR110 : PureC Tryz.prog (Go.Ax.frozen W) (eR110).1 (eR110).2.1 (eR110).2.2 := pure_of_run (pok h (T := []) (.nil)) (by kernel_rfl) runR110
theorem isR111 : PureC Tryz.prog (Go.Ax.frozen W) (eR111).1 (eR111).2.1 (eR111).2.2 := pure_of_run (pok h (T := [eR11, eR17, eR18, eR19, eR25, eR27, eR38, eR39, eR45, eR46, eR52, eR93, eR95, eR97, eR98, eR100, eR102, eR103, eR105, eR107, eR108, eR109, eR110]) (.cons (isR11 h) (.cons (isR17 h) (.cons (isR18 h) (.cons (isR19 h) (.cons (isR25 h) (.cons (isR27 h) (.cons (isR38 h) (.cons (isR39 h) (.cons (isR45 h) (.cons (isR46 h) (.cons (isR52 h) (.cons (isR93 h) (.cons (isR95 h) (.cons (isR97 h) (.cons (isR98 h) (.cons (isR100 h) (.cons (isR102 h) (.cons (isR103 h) (.cons (isR105 h) (.cons (isR107 h) (.cons (isR108 h) (.cons (isR109 h) (.cons (isR110 h) (.nil))))))))))))))))))))))))) (by kernel_rfl) runR111
theorem isR112 : PureC Tryz.prog (Go.Ax.frozen W) (eR112).1 (eR112).2.1 (eR112).2.2 := pure_of_run (pok h (T := [eR111]) (.cons (isR111 h) (.nil))) (by kernel_rfl) runR112
theorem isR113 : PureC Tryz.prog (Go.Ax.frozen W) (eR113).1 (eR113).2.1 (eR113).2.2 := pure_of_run (pok h (T := []) (.nil)) (by kernel_rfl) runR113
theorem isR114 : PureC Tryz.prog (Go.Ax.frozen W) (eR114).1 (eR114).2.1 (eR114).2.2 := pure_of_run (pok h (T := [eR59, eR94, eR99, eR104, eR112]) (.cons (isR59 h) (.cons (isR94 h) (.cons (isR99 h) (.cons (isR104 h) (.cons (isR112 h) (.nil))))))) (by kernel_rfl) runR114
theorem isR115 : PureC Tryz.prog (Go.Ax.frozen W) (eR115).1 (eR115).2.1 (eR115).2.2 := pure_of_run (pok h (T := []) (.nil)) (by kernel_rfl) runR115
theorem isR116 : PureC Tryz.prog (Go.Ax.frozen W) (eR116).1 (eR116).2.1 (eR116).2.2 := pure_of_run (pok h (T := [eR115]) (.cons (isR115 h) (.nil))) (by kernel_rfl) runR116
theorem isR117 : PureC Tryz.prog (Go.Ax.frozen W) (eR117).1 (eR117).2.1 (eR117).2.2 := pure_of_run (pok h (T := [eR115]) (.cons (isR115 h) (.nil))) (by kernel_rfl) runR117
theorem isR118 : PureC Tryz.prog (Go.Ax.frozen W) (eR118).1 (eR118).2.1 (eR118).2.2 := pure_of_run (pok h (T := []) (.nil)) (by kernel_rfl) runR118
theorem isR119 : PureC Tryz.prog (Go.Ax.frozen W) (eR119).1 (eR119).2.1 (eR119).2.2 := pure_of_run (pok h (T := []) (.nil)) (by kernel_rfl) runR119
theorem isR120 : PureC Tryz.prog (Go.Ax.frozen W) (eR120).1 (eR120).2.1 (eR120).2.2 := pure_of_run (pok h (T := [eR115]) (.cons (isR115 h) (.nil))) (by kernel_rfl) runR120
theorem isR121 : PureC Tryz.prog (Go.Ax.frozen W) (eR121).1 (eR121).2.1 (eR121).2.2 := pure_of_run (pok h (T := [eR115]) (.cons (isR115 h) (.nil))) (by kernel_rfl) runR121
theorem isR122 : PureC Tryz.prog (Go.Ax.frozen W) (eR122).1 (eR122).2.1 (eR122).2.2 := pure_of_run (pok h (T := []) (.nil)) (by kernel_rfl) runR122
theorem isR123 : PureC Tryz.prog (Go.Ax.frozen W) (eR123).1 (eR123).2.1 (eR123).2.2 := pure_of_run (pok h (T := []) (.nil)) (by kernel_rfl) runR123
theorem isR124 : PureC Tryz.prog (Go.Ax.frozen W) (eR124).1 (eR124).2.1 (eR124).2.2 := pure_of_run (pok h (T := []) (.nil)) (by kernel_rfl) runR124
theorem isR125 : PureC Tryz.prog (Go.Ax.frozen W) (eR125).1 (eR125).2.1 (eR125).2.2 := pure_of_run (pok h (T := [eR115]) (.cons (isR115 h) (.nil))) (by kernel_rfl) runR125
theorem isR126 : PureC Tryz.prog (Go.Ax.frozen W) (eR126).1 (eR126).2.1 (eR126).2.2 := pure_of_run (pok h (T := [eR115]) (.cons (isR115 h) (.nil))) (by kernel_rfl) runR126
theorem isR127 : PureC Tryz.prog (Go.Ax.frozen W) (eR127).1 (eR127).2.1 (eR127).2.2 := pure_of_run (pok h (T := [eR115]) (.cons (isR115 h) (.nil))) (by kernel_rfl) runR127
theorem isR128 : PureC Tryz.prog (Go.Ax.frozen W) (eR128).1 (eR128).2.1 (eR128).2.2 := pure_of_run (pok h (T := [eR115]) (.cons (isR115 h) (.nil))) (by kernel_rfl) runR128
theorem isR129 : PureC Tryz.prog (Go.Ax.frozen W) (eR129).1 (eR129).2.1 (eR129).2.2 := pure_of_run (pok h (T := [eR115]) (.cons (isR115 h) (.nil))) (by kernel_rfl) runR129
theorem isR130 : PureC Tryz.prog (Go.Ax.frozen W) (eR130).1 (eR130).2.1 (eR130).2.2 := pure_of_run (pok h (T := [eR115]) (.cons (isR115 h) (.nil))) (by kernel_rfl) runR130
theorem isR131 : PureC Tryz.prog (Go.Ax.frozen W) (eR131).1 (eR131).2.1 (eR131).2.2 := pure_of_run (pok h (T := [eR115]) (.cons (isR115 h) (.nil))) (by kernel_rfl) runR131
theorem isR132 : PureC Tryz.prog (Go.Ax.frozen W) (eR132).1 (eR132).2.1 (eR132).2.2 := pure_of_run (pok h (T := [eR115]) (.cons (isR115 h) (.nil))) (by kernel_rfl) runR132
theorem isR133 : PureC Tryz.prog (Go.Ax.frozen W) (eR133).1 (eR133).2.1 (eR133).2.2 := pure_of_run (pok h (T := [eR115]) (.cons (isR115 h) (.nil))) (by kernel_rfl) runR133
theorem isR134 : PureC Tryz.prog (Go.Ax.frozen W) (eR134).1 (eR134).2.1 (eR134).2.2 := pure_of_run (pok h (T := [eR115]) (.cons (isR115 h) (.nil))) (by kernel_rfl) runR134
theorem isR135 : PureC Tryz.prog (Go.Ax.frozen W) (eR135).1 (eR135).2.1 (eR135).2.2 := pure_of_all (pok h (T := [eR59, eR64, eR65, eR66, eR69, eR94, eR99, eR104, eR112, eR113, eR114, eR116, eR117, eR118, eR119, eR120, eR121, eR122, eR123, eR124, eR125, eR126, eR127, eR128, eR129, eR130, eR131, eR132, eR133, eR134]) (.cons (isR59 h) (.cons (isR64 h) (.cons (isR65 h) (.cons (isR66 h) (.cons (isR69 h) (.cons (isR94 h) (.cons (isR99 h) (.cons (isR104 h) (.cons (isR112 h) (.cons (isR113 h) (.cons (isR114 h) (.cons (isR116 h) (.cons (isR117 h) (.cons (isR118 h) (.cons (isR119 h) (.cons (isR120 h) (.cons (isR121 h) (.cons (isR122 h) (.cons (isR123 h) (.cons (isR124 h) (.cons (isR125 h) (.cons (isR126 h) (.cons (isR127 h) (.cons (isR128 h) (.cons (isR129 h) (.cons (isR130 h) (.cons (isR131 h) (.cons (isR132 h) (.cons (isR133 h) (.cons (isR134 h) (.nil)))))))))))))))))))))))))))))))) (by kernel_rfl) runR135
theorem isR136 : PureC Tryz.prog (Go.Ax.frozen W) (eR136).1 (eR136).2.1 (eR136).2.2 := pure_of_run (pok h (T := [eR59, eR94, eR99, eR104, eR112]) (.cons (isR59 h) (.cons (isR94 h) (.cons (isR99 h) (.cons (isR104 h) (.cons (isR112 h) (.nil))))))) (by kernel_rfl) runR136
theorem isR137 : PureC Tryz.prog (Go.Ax.frozen W) (eR137).1 (eR137).2.1 (eR137).2.2 := pure_of_run (pok h (T := []) (.nil)) (by kernel_rfl) runR137
theorem isR138 : PureC Tryz.prog (Go.Ax.frozen W) (eR138).1 (eR138).2.1 (eR138).2.2 := pure_of_run (pok h (T := [eR137]) (.cons (isR137 h) (.nil))) (by kernel_rfl) runR138
theorem isR139 : PureC Tryz.prog (Go.Ax.frozen W) (eR139).1 (eR139).2.1 (eR139).2.2 := pure_of_run (pok h (T := [eR84, eR99, eR111, eR135, eR136, eR138]) (.cons (isR84 h) (.cons (isR99 h) (.cons (isR111 h) (.cons (isR135 h) (.cons (isR136 h) (.cons (isR138 h) (.nil)))))))) (by kernel_rfl) runR139
theorem isR140 : PureC Tryz.prog (Go.Ax.frozen W) (eR140).1 (eR140).2.1 (eR140).2.2 := pure_of_run (pok h (T := [eR93]) (.cons (isR93 h) (.nil))) (by kernel_rfl) runR140
theorem isR141 : PureC Tryz.prog (Go.Ax.frozen W) (eR141).1 (eR141).2.1 (eR141).2.2 := pure_of_run (pok h (T := [eR84, eR99, eR111, eR135, eR136, eR138, eR140]) (.cons (isR84 h) (.cons (isR99 h) (.cons (isR111 h) (.cons (isR135 h) (.cons (isR136 h) (.cons (isR138 h) (.cons (isR140 h) (.nil))))))))) (by kernel_rfl) runR141
theorem isR142 : PureC Tryz.prog (Go.Ax.frozen W) (eR142).1 (eR142).2.1 (eR142).2.2 := pure_of_run (pok h (T := []) (.nil)) (by kernel_rfl) runR142
theorem isR143 : PureC Tryz.prog (Go.Ax.frozen W) (eR143).1 (eR143).2.1 (eR143).2.2 := pure_of_run (pok h (T := [eR142]) (.cons (isR142 h) (.nil))) (by kernel_rfl) runR143
theorem isR144 : PureC Tryz.prog (Go.Ax.frozen W) (eR144).1 (eR144).2.1 (eR144).2.2 := pure_of_run (pok h (T := [eR143]) (.cons (isR143 h) (.nil))) (by kernel_rfl) runR144
theorem isR145 : PureC Tryz.prog (Go.Ax.frozen W) (eR145).1 (eR145).2.1 (eR145).2.2 := pure_of_run (pok h (T := [eR144]) (.cons (isR144 h) (.nil))) (by kernel_rfl) runR145
theorem isR146 : PureC Tryz.prog (Go.Ax.frozen W) (eR146).1 (eR146).2.1 (eR146).2.2 := pure_of_run (pok h (T := []) (.nil)) (by kernel_rfl) runR146
theorem isR147 : PureC Tryz.prog (Go.Ax.frozen W) (eR147).1 (eR147).2.1 (eR147).2.2 := pure_of_run (pok h (T := [eR14]) (.cons (isR14 h) (.nil))) (by kernel_rfl) runR147
theorem isR148 : PureC Tryz.prog (Go.Ax.frozen W) (eR148).1 (eR148).2.1 (eR148).2.2 := pure_of_run (pok h (T := []) (.nil)) (by kernel_rfl) runR148
theorem isR149 : PureC Tryz.prog (Go.Ax.frozen W) (eR149).1 (eR149).2.1 (eR149).2.2 := pure_of_run (pok h (T := []) (.nil)) (by kernel_rfl) runR149
theorem isR150 : PureC Tryz.prog (Go.Ax.frozen W) (eR150).1 (eR150).2.1 (eR150).2.2 := pure_of_run (pok h (T := [eR3, eR4, eR6, eR9, eR10, eR11, eR12, eR16, eR17, eR18, eR21, eR25, eR26, eR146, eR147, eR148, eR149]) (.cons (isR3 h) (.cons (isR4 h) (.cons (isR6 h) (.cons (isR9 h) (.cons (isR10 h) (.cons (isR11 h) (.cons (isR12 h) (.cons (isR16 h) (.cons (isR17 h) (.cons (isR18 h) (.cons (isR21 h) (.cons (isR25 h) (.cons (isR26 h) (.cons (isR146 h) (.cons (isR147 h) (.cons (isR148 h) (.cons (isR149 h) (.nil))))))))))))))))))) (by kernel_rfl) runR150
theorem isR151 : PureC Tryz.prog (Go.Ax.frozen W) (eR151).1 (eR151).2.1 (eR151).2.2 := pure_of_run (pok h (T := [eR31]) (.cons (isR31 h) (.nil))) (by kernel_rfl) runR151
theorem isR152 : PureC Tryz.prog (Go.Ax.frozen W) (eR152).1 (eR152).2.1 (eR152).2.2 := pure_of_run (pok h (T := [eR151]) (.cons (isR151 h) (.nil))) (by kernel_rfl) runR152
theorem isR153 : PureC Tryz.prog (Go.Ax.frozen W) (eR153).1 (eR153).2.1 (eR153).2.2 := pure_of_run (pok h (T := [eR152]) (.cons (isR152 h) (.nil))) (by kernel_rfl) runR153
theorem isR154 : PureC Tryz.prog (Go.Ax.frozen W) (eR154).1 (eR154).2.1 (eR154).2.2 := pure_of_run (pok h (T := [eR152]) (.cons (isR152 h) (.nil))) (by kernel_rfl) runR154
theorem isR155 : PureC Tryz.prog (Go.Ax.frozen W) (eR155).1 (eR155).2.1 (eR155).2.2 := pure_of_run (pok h (T := [eR153, eR154]) (.cons (isR153 h) (.cons (isR154 h) (.nil)))) (by kernel_rfl) runR155
theorem isR156 : PureC Tryz.prog (Go.Ax.frozen W) (eR156).1 (eR156).2.1 (eR156).2.2 := pure_of_run (pok h (T := [eR152]) (.cons (isR152 h) (.nil))) (by kernel_rfl) runR156
theorem isR157 : PureC Tryz.prog (Go.Ax.frozen W) (eR157).1 (eR157).2.1 (eR157).2.2 := pure_of_run (pok h (T := [eR151]) (.cons (isR151 h) (.nil))) (by kernel_rfl) runR157
theorem isR158 : PureC Tryz.prog (Go.Ax.frozen W) (eR158).1 (eR158).2.1 (eR158).2.2 := pure_of_run (pok h (T := [eR157]) (.cons (isR157 h) (.nil))) (by kernel_rfl) runR158
theorem isR159 : PureC Tryz.prog (Go.Ax.frozen W) (eR159).1 (eR159).2.1 (eR159).2.2 := pure_of_run (pok h (T := [eR157]) (.cons (isR157 h) (.nil))) (by kernel_rfl) runR159
theorem isR160 : PureC Tryz.prog (Go.Ax.frozen W) (eR160).1 (eR160).2.1 (eR160).2.2 := pure_of_run (pok h (T := [eR158, eR159]) (.cons (isR158 h) (.cons (isR159 h) (.nil)))) (by kernel_rfl) runR160
theorem isR161 : PureC Tryz.prog (Go.Ax.frozen W) (eR161).1 (eR161).2.1 (eR161).2.2 := pure_of_run (pok h (T := [eR157]) (.cons (isR157 h) (.nil))) (by kernel_rfl) runR161
theorem isR162 : PureC Tryz.prog (Go.Ax.frozen W) (eR162).1 (eR162).2.1 (eR162).2.2 := pure_of_run (pok h (T := []) (.nil)) (by kernel_rfl) runR162
theorem isR163 : PureC Tryz.prog (Go.Ax.frozen W) (eR163).1 (eR163).2.1 (eR163).2.2 := pure_of_run (pok h (T := []) (.nil)) (by kernel_rfl) runR163
theorem isR164 : PureC Tryz.prog (Go.Ax.frozen W) (eR164).1 (eR164).2.1 (eR164).2.2 := pure_of_run (pok h (T := [eR11, eR17, eR18, eR25, eR38, eR39, eR52, eR148, eR151, eR153, eR155, eR156, eR158, eR160, eR161, eR162, eR163]) (.cons (isR11 h) (.cons (isR17 h) (.cons (isR18 h) (.cons (isR25 h) (.cons (isR38 h) (.cons (isR39 h) (.cons (isR52 h) (.cons (isR148 h) (.cons (isR151 h) (.cons (isR153 h) (.cons (isR155 h) (.cons (isR156 h) (.cons (isR158 h) (.cons (isR160 h) (.cons (isR161 h) (.cons (isR162 h) (.cons (isR163 h) (.nil))))))))))))))))))) (by kernel_rfl) runR164
theorem isR165 : PureC Tryz.prog (Go.Ax.frozen W) (eR165).1 (eR165).2.1 (eR165).2.2 := pure_of_run (pok h (T := []) (.nil)) (by kernel_rfl) runR165
theorem isR166 : PureC Tryz.prog (Go.Ax.frozen W) (eR166).1 (eR166).2.1 (eR166).2.2 := pure_of_run (pok h (T := [eR165]) (.cons (isR165 h) (.nil))) (by kernel_rfl) runR166
theorem isR167 : PureC Tryz.prog (Go.Ax.frozen W) (eR167).1 (eR167).2.1 (eR167).2.2 := pure_of_run (pok h (T := [eR164]) (.cons (isR164 h) (.nil))) (by kernel_rfl) runR167
theorem isR168 : PureC Tryz.prog (Go.Ax.frozen W) (eR168).1 (eR168).2.1 (eR168).2.2 := pure_of_run (pok h (T := []) (.nil)) (by kernel_rfl) runR168
theorem isR169 : PureC Tryz.prog (Go.Ax.frozen W) (eR169).1 (eR169).2.1 (eR169).2.2 := pure_of_run (pok h (T := [eR59, eR152, eR157, eR167]) (.cons (isR59 h) (.cons (isR152 h) (.cons (isR157 h) (.cons (isR167 h) (.nil)))))) (by kernel_rfl) runR169
theorem isR170 : PureC Tryz.prog (Go.Ax.frozen W) (eR170).1 (eR170).2.1 (eR170).2.2 := pure_of_run (pok h (T := []) (.nil)) (by kernel_rfl) runR170
theorem isR171 : PureC Tryz.prog (Go.Ax.frozen W) (eR171).1 (eR171).2.1 (eR171).2.2 := pure_of_run (pok h (T := [eR170]) (.cons (isR170 h) (.nil))) (by kernel_rfl) runR171
theorem isR172 : PureC Tryz.prog (Go.Ax.frozen W) (eR172).1 (eR172).2.1 (eR172).2.2 := pure_of_run (pok h (T := []) (.nil)) (by kernel_rfl) runR172
theorem isR173 : PureC Tryz.prog (Go.Ax.frozen W) (eR173).1 (eR173).2.1 (eR173).2.2 := pure_of_run (pok h (T := []) (.nil)) (by kernel_rfl) runR173
theorem isR174 : PureC Tryz.prog (Go.Ax.frozen W) (eR174).1 (eR174).2.1 (eR174).2.2 := pure_of_run (pok h (T := [eR170]) (.cons (isR170 h) (.nil))) (by kernel_rfl) runR174
theorem isR175 : PureC Tryz.prog (Go.Ax.frozen W) (eR175).1 (eR175).2.1 (eR175).2.2 := pure_of_run (pok h (T := [eR170]) (.cons (isR170 h) (.nil))) (by kernel_rfl) runR175
theorem isR176 : PureC Tryz.prog (Go.Ax.frozen W) (eR176).1 (eR176).2.1 (eR176).2.2 := pure_of_run (pok h (T := [eR170]) (.cons (isR170 h) (.nil))) (by kernel_rfl) runR176
theorem isR177 : PureC Tryz.prog (Go.Ax.frozen W) (eR177).1 (eR177).2.1 (eR177).2.2 := pure_of_run (pok h (T := [eR170]) (.cons (isR170 h) (.nil))) (by kernel_rfl) runR177
theorem isR178 : PureC Tryz.prog (Go.Ax.frozen W) (eR178).1 (eR178).2.1 (eR178).2.2 := pure_of_run (pok h (T := [eR170]) (.cons (isR170 h) (.nil))) (by kernel_rfl) runR178
theorem isR179 : PureC Tryz.prog (Go.Ax.frozen W) (eR179).1 (eR179).2.1 (eR179).2.2 := pure_of_run (pok h (T := [eR170]) (.cons (isR170 h) (.nil))) (by kernel_rfl) runR179
theorem isR180 : PureC Tryz.prog (Go.Ax.frozen W) (eR180).1 (eR180).2.1 (eR180).2.2 := pure_of_run (pok h (T := [eR170]) (.cons (isR170 h) (.nil))) (by kernel_rfl) runR180
theorem isR181 : PureC Tryz.prog (Go.Ax.frozen W) (eR181).1 (eR181).2.1 (eR181).2.2 := pure_of_all (pok h (T := [eR59, eR64, eR152, eR157, eR167, eR168, eR169, eR171, eR172, eR173, eR174, eR175, eR176, eR177, eR178, eR179, eR180]) (.cons (isR59 h) (.cons (isR64 h) (.cons (isR152 h) (.cons (isR157 h) (.cons (isR167 h) (.cons (isR168 h) (.cons (isR169 h) (.cons (isR171 h) (.cons (isR172 h) (.cons (isR173 h) (.cons (isR174 h) (.cons (isR175 h) (.cons (isR176 h) (.cons (isR177 h) (.cons (isR178 h) (.cons (isR179 h) (.cons (isR180 h) (.nil))))))))))))))))))) (by kernel_rfl) runR181
theorem isR182 : PureC Tryz.prog (Go.Ax.frozen W) (eR182).1 (eR182).2.1 (eR182).2.2 := pure_of_run (pok h (T := [eR181]) (.cons (isR181 h) (.nil))) (by kernel_rfl) runR182
theorem isR183 : PureC Tryz.prog (Go.Ax.frozen W) (eR183).1 (eR183).2.1 (eR183).2.2 := pure_of_run (pok h (T := [eR18, eR26, eR149, eR157, eR163, eR165]) (.cons (isR18 h) (.cons (isR26 h) (.cons (isR149 h) (.cons (isR157 h) (.cons (isR163 h) (.cons (isR165 h) (.nil)))))))) (by kernel_rfl) runR183
theorem isR184 : PureC Tryz.prog (Go.Ax.frozen W) (eR184).1 (eR184).2.1 (eR184).2.2 := pure_of_run (pok h (T := [eR31]) (.cons (isR31 h) (.nil))) (by kernel_rfl) runR184
theorem isR185 : PureC Tryz.prog (Go.Ax.frozen W) (eR185).1 (eR185).2.1 (eR185).2.2 := pure_of_run (pok h (T := [eR184]) (.cons (isR184 h) (.nil))) (by kernel_rfl) runR185
theorem isR186 : PureC Tryz.prog (Go.Ax.frozen W) (eR186).1 (eR186).2.1 (eR186).2.2 := pure_of_run (pok h (T := []) (.nil)) (by kernel_rfl) runR186
theorem isR187 : PureC Tryz.prog (Go.Ax.frozen W) (eR187).1 (eR187).2.1 (eR187).2.2 := pure_of_run (pok h (T := [eR18, eR26, eR52, eR149, eR163, eR165, eR185, eR186]) (.cons (isR18 h) (.cons (isR26 h) (.cons (isR52 h) (.cons (isR149 h) (.cons (isR163 h) (.cons (isR165 h) (.cons (isR185 h) (.cons (isR186 h) (.nil)))))))))) (by kernel_rfl) runR187
theorem isR188 : PureC Tryz.prog (Go.Ax.frozen W) (eR188).1 (eR188).2.1 (eR188).2.2 := pure_of_run (pok h (T := [eR31]) (.cons (isR31 h) (.nil))) (by kernel_rfl) runR188
theorem isR189 : PureC Tryz.prog (Go.Ax.frozen W) (eR189).1 (eR189).2.1 (eR189).2.2 := pure_of_run (pok h (T := [eR188]) (.cons (isR188 h) (.nil))) (by kernel_rfl) runR189
theorem isR190 : PureC Tryz.prog (Go.Ax.frozen W) (eR190).1 (eR190).2.1 (eR190).2.2 := pure_of_run (pok h (T := [eR189]) (.cons (isR189 h) (.nil))) (by kernel_rfl) runR190
theorem isR191 : PureC Tryz.prog (Go.Ax.frozen W) (eR191).1 (eR191).2.1 (eR191).2.2 := pure_of_run (pok h (T := [eR189]) (.cons (isR189 h) (.nil))) (by kernel_rfl) runR191
theorem isR192 : PureC Tryz.prog (Go.Ax.frozen W) (eR192).1 (eR192).2.1 (eR192).2.2 := pure_of_run (pok h (T := [eR190, eR191]) (.cons (isR190 h) (.cons (isR191 h) (.nil)))) (by kernel_rfl) runR192
theorem isR193 : PureC Tryz.prog (Go.Ax.frozen W) (eR193).1 (eR193).2.1 (eR193).2.2 := pure_of_run (pok h (T := [eR189]) (.cons (isR189 h) (.nil))) (by kernel_rfl) runR193
theorem isR194 : PureC Tryz.prog (Go.Ax.frozen W) (eR194).1 (eR194).2.1 (eR194).2.2 := pure_of_run (pok h (T := [eR188]) (.cons (isR188 h) (.nil))) (by kernel_rfl) runR194
theorem isR195 : PureC Tryz.prog (Go.Ax.frozen W) (eR195).1 (eR195).2.1 (eR195).2.2 := pure_of_run (pok h (T := [eR194]) (.cons (isR194 h) (.nil))) (by kernel_rfl) runR195
theorem isR196 : PureC Tryz.prog (Go.Ax.frozen W) (eR196).1 (eR196).2.1 (eR196).2.2 := pure_of_run (pok h (T := [eR194]) (.cons (isR194 h) (.nil))) (by kernel_rfl) runR196
theorem isR197 : PureC Tryz.prog (Go.Ax.frozen W) (eR197).1 (eR197).2.1 (eR197).2.2 := pure_of_run (pok h (T := [eR195, eR196]) (.cons (isR195 h) (.cons (isR196 h) (.nil)))) (by kernel_rfl) runR197
theorem isR198 : PureC Tryz.prog (Go.Ax.frozen W) (eR198).1 (eR198).2.1 (eR198).2.2 := pure_of_run (pok h (T := [eR194]) (.cons (isR194 h) (.nil))) (by kernel_rfl) runR198
theorem isR199 : PureC Tryz.prog (Go.Ax.frozen W) (eR199).1 (eR199).2.1 (eR199).2.2 := pure_of_run (pok h (T := [eR11, eR17, eR18, eR25, eR38, eR39, eR52, eR110, eR148, eR186, eR188, eR190, eR192, eR193, eR195, eR197, eR198]) (.cons (isR11 h) (.cons (isR17 h) (.cons (isR18 h) (.cons (isR25 h) (.cons (isR38 h) (.cons (isR39 h) (.cons (isR52 h) (.cons (isR110 h) (.cons (isR148 h) (.cons (isR186 h) (.cons (isR188 h) (.cons (isR190 h) (.cons (isR192 h) (.cons (isR193 h) (.cons (isR195 h) (.cons (isR197 h) (.cons (isR198 h) (.nil))))))))))))))))))) (by kernel_rfl) runR199
theorem isR200 : PureC Tryz.prog (Go.Ax.frozen W) (eR200).1 (eR200).2.1 (eR200).2.2 := pure_of_run (pok h (T := [eR199]) (.cons (isR199 h) (.nil))) (by kernel_rfl) runR200
theorem isR201 : PureC Tryz.prog (Go.Ax.frozen W) (eR201).1 (eR201).2.1 (eR201).2.2 := pure_of_run (pok h (T := []) (.nil)) (by kernel_rfl) runR201
theorem isR202 : PureC Tryz.prog (Go.Ax.frozen W) (eR202).1 (eR202).2.1 (eR202).2.2 := pure_of_run (pok h (T := [eR59, eR189, eR194, eR200]) (.cons (isR59 h) (.cons (isR189 h) (.cons (isR194 h) (.cons (isR200 h) (.nil)))))) (by kernel_rfl) runR202
theorem isR203 : PureC Tryz.prog (Go.Ax.frozen W) (eR203).1 (eR203).2.1 (eR203).2.2 := pure_of_run (pok h (T := []) (.nil)) (by kernel_rfl) runR203
theorem isR204 : PureC Tryz.prog (Go.Ax.frozen W) (eR204).1 (eR204).2.1 (eR204).2.2 := pure_of_run (pok h (T := [eR203]) (.cons (isR203 h) (.nil))) (by kernel_rfl) runR204
theorem isR205 : PureC Tryz.prog (Go.Ax.frozen W) (eR205).1 (eR205).2.1 (eR205).2.2 := pure_of_run (pok h (T := [eR203]) (.cons (isR203 h) (.nil))) (by kernel_rfl) runR205
theorem isR206 : PureC Tryz.prog (Go.Ax.frozen W) (eR206).1 (eR206).2.1 (eR206).2.2 := pure_of_run (pok h (T := [eR203]) (.cons (isR203 h) (.nil))) (by kernel_rfl) runR206
theorem isR207 : PureC Tryz.prog (Go.Ax.frozen W) (eR207).1 (eR207).2.1 (eR207).2.2 := pure_of_run (pok h (T := [eR203]) (.cons (isR203 h) (.nil))) (by kernel_rfl) runR207
theorem isR208 : PureC Tryz.prog (Go.Ax.frozen W) (eR208).1 (eR208).2.1 (eR208).2.2 := pure_of_run (pok h (T := [eR203]) (.cons (isR203 h) (.nil))) (by kernel_rfl) runR208
theorem isR209 : PureC Tryz.prog (Go.Ax.frozen W) (eR209).1 (eR209).2.1 (eR209).2.2 := pure_of_run (pok h (T := [eR203]) (.cons (isR203 h) (.nil))) (by kernel_rfl) runR209
theorem isR210 : PureC Tryz.prog (Go.Ax.frozen W) (eR210).1 (eR210).2.1 (eR210).2.2 := pure_of_run (pok h (T := [eR203]) (.cons (isR203 h) (.nil))) (by kernel_rfl) runR210
theorem isR211 : PureC Tryz.prog (Go.Ax.frozen W) (eR211).1 (eR211).2.1 (eR211).2.2 := pure_of_all (pok h (T := [eR59, eR64, eR172, eR173, eR189, eR194, eR200, eR201, eR202, eR204, eR205, eR206, eR207, eR208, eR209, eR210]) (.cons (isR59 h) (.cons (isR64 h) (.cons (isR172 h) (.cons (isR173 h) (.cons (isR189 h) (.cons (isR194 h) (.cons (isR200 h) (.cons (isR201 h) (.cons (isR202 h) (.cons (isR204 h) (.cons (isR205 h) (.cons (isR206 h) (.cons (isR207 h) (.cons (isR208 h) (.cons (isR209 h) (.cons (isR210 h) (.nil)))))))))))))))))) (by kernel_rfl) runR211
theorem isR212 : PureC Tryz.prog (Go.Ax.frozen W) (eR212).1 (eR212).2.1 (eR212).2.2 := pure_of_run (pok h (T := [eR211]) (.cons (isR211 h) (.nil))) (by kernel_rfl) runR212
theorem isR213 : PureC Tryz.prog (Go.Ax.frozen W) (eR213).1 (eR213).2.1 (eR213).2.2 := pure_of_run (pok h (T := [eR164, eR166, eR182, eR183, eR187, eR212]) (.cons (isR164 h) (.cons (isR166 h) (.cons (isR182 h) (.cons (isR183 h) (.cons (isR187 h) (.cons (isR212 h) (.nil)))))))) (by kernel_rfl) runR213
theorem isR214 : PureC Tryz.prog (Go.Ax.frozen W) (eR214).1 (eR214).2.1 (eR214).2.2 := pure_of_run (pok h (T := []) (.nil)) (by kernel_rfl) runR214
theorem isR215 : PureC Tryz.prog (Go.Ax.frozen W) (eR215).1 (eR215).2.1 (eR215).2.2 := pure_of_run (pok h (T := []) (.nil)) (by kernel_rfl) runR215
theorem isR216 : PureC Tryz.prog (Go.Ax.frozen W) (eR216).1 (eR216).2.1 (eR216).2.2 := pure_of_run (pok h (T := []) (.nil)) (by kernel_rfl) runR216
theorem isR217 : PureC Tryz.prog (Go.Ax.frozen W) (eR217).1 (eR217).2.1 (eR217).2.2 := pure_of_run (pok h (T := [eR11, eR17, eR18, eR25, eR38, eR52, eR148, eR186, eR188, eR214, eR215, eR216]) (.cons (isR11 h) (.cons (isR17 h) (.cons (isR18 h) (.cons (isR25 h) (.cons (isR38 h) (.cons (isR52 h) (.cons (isR148 h) (.cons (isR186 h) (.cons (isR188 h) (.cons (isR214 h) (.cons (isR215 h) (.cons (isR216 h) (.nil)))))))))))))) (by kernel_rfl) runR217
theorem isR218 : PureC Tryz.prog (Go.Ax.frozen W) (eR218).1 (eR218).2.1 (eR218).2.2 := pure_of_run (pok h (T := []) (.nil)) (by kernel_rfl) runR218
theorem isR219 : PureC Tryz.prog (Go.Ax.frozen W) (eR219).1 (eR219).2.1 (eR219).2.2 := pure_of_run (pok h (T := []) (.nil)) (by kernel_rfl) runR219
theorem isR220 : PureC Tryz.prog (Go.Ax.frozen W) (eR220).1 (eR220).2.1 (eR220).2.2 := pure_of_run (pok h (T := [eR219]) (.cons (isR219 h) (.nil))) (by kernel_rfl) runR220
theorem isR221 : PureC Tryz.prog (Go.Ax.frozen W) (eR221).1 (eR221).2.1 (eR221).2.2 := pure_of_run (pok h (T := [eR220]) (.cons (isR220 h) (.nil))) (by kernel_rfl) runR221
theorem isR222 : PureC Tryz.prog (Go.Ax.frozen W) (eR222).1 (eR222).2.1 (eR222).2.2 := pure_of_run (pok h (T := []) (.nil)) (by kernel_rfl) runR222
theorem isR223 : PureC Tryz.prog (Go.Ax.frozen W) (eR223).1 (eR223).2.1 (eR223).2.2 := pure_of_run (pok h (T := [eR222]) (.cons (isR222 h) (.nil))) (by kernel_rfl) runR223
theorem isR224 : PureC Tryz.prog (Go.Ax.frozen W) (eR224).1 (eR224).2.1 (eR224).2.2 := pure_of_run (pok h (T := [eR223]) (.cons (isR223 h) (.nil))) (by kernel_rfl) runR224
theorem isR225 : PureC Tryz.prog (Go.Ax.frozen W) (eR225).1 (eR225).2.1 (eR225).2.2 := pure_of_run (pok h (T := [eR3, eR4, eR6, eR9, eR10, eR11, eR12, eR13, eR16, eR17, eR18, eR19, eR20, eR21, eR24, eR25, eR26, eR148, eR149, eR218, eR221, eR224]) (.cons (isR3 h) (.cons (isR4 h) (.cons (isR6 h) (.cons (isR9 h) (.cons (isR10 h) (.cons (isR11 h) (.cons (isR12 h) (.cons (isR13 h) (.cons (isR16 h) (.cons (isR17 h) (.cons (isR18 h) (.cons (isR19 h) (.cons (isR20 h) (.cons (isR21 h) (.cons (isR24 h) (.cons (isR25 h) (.cons (isR26 h) (.cons (isR148 h) (.cons (isR149 h) (.cons (isR218 h) (.cons (isR221 h) (.cons (isR224 h) (.nil)))))))))))))))))))))))) (by kernel_rfl) runR225
theorem isR226 : PureC Tryz.prog (Go.Ax.frozen W) (eR226).1 (eR226).2.1 (eR226).2.2 := pure_of_run (pok h (T := [eR31]) (.cons (isR31 h) (.nil))) (by kernel_rfl) runR226
theorem isR227 : PureC Tryz.prog (Go.Ax.frozen W) (eR227).1 (eR227).2.1 (eR227).2.2 := pure_of_run (pok h (T := [eR226]) (.cons (isR226 h) (.nil))) (by kernel_rfl) runR227
theorem isR228 : PureC Tryz.prog (Go.Ax.frozen W) (eR228).1 (eR228).2.1 (eR228).2.2 := pure_of_run (pok h (T := [eR227]) (.cons (isR227 h) (.nil))) (by kernel_rfl) runR228
theorem isR229 : PureC Tryz.prog (Go.Ax.frozen W) (eR229).1 (eR229).2.1 (eR229).2.2 := pure_of_run (pok h (T := [eR227]) (.cons (isR227 h) (.nil))) (by kernel_rfl) runR229
theorem isR230 : PureC Tryz.prog (Go.Ax.frozen W) (eR230).1 (eR230).2.1 (eR230).2.2 := pure_of_run (pok h (T := [eR228, eR229]) (.cons (isR228 h) (.cons (isR229 h) (.nil)))) (by kernel_rfl) runR230
theorem isR231 : PureC Tryz.prog (Go.Ax.frozen W) (eR231).1 (eR231).2.1 (eR231).2.2 := pure_of_run (pok h (T := [eR227]) (.cons (isR227 h) (.nil))) (by kernel_rfl) runR231
theorem isR232 : PureC Tryz.prog (Go.Ax.frozen W) (eR232).1 (eR232).2.1 (eR232).2.2 := pure_of_run (pok h (T := [eR226]) (.cons (isR226 h) (.nil))) (by kernel_rfl) runR232
theorem isR233 : PureC Tryz.prog (Go.Ax.frozen W) (eR233).1 (eR233).2.1 (eR233).2.2 := pure_of_run (pok h (T := [eR232]) (.cons (isR232 h) (.nil))) (by kernel_rfl) runR233
theorem isR234 : PureC Tryz.prog (Go.Ax.frozen W) (eR234).1 (eR234).2.1 (eR234).2.2 := pure_of_run (pok h (T := [eR232]) (.cons (isR232 h) (.nil))) (by kernel_rfl) runR234
theorem isR235 : PureC Tryz.prog (Go.Ax.frozen W) (eR235).1 (eR235).2.1 (eR235).2.2 := pure_of_run (pok h (T := [eR233, eR234]) (.cons (isR233 h) (.cons (isR234 h) (.nil)))) (by kernel_rfl) runR235
theorem isR236 : PureC Tryz.prog (Go.Ax.frozen W) (eR236).1 (eR236).2.1 (eR236).2.2 := pure_of_run (pok h (T := [eR232]) (.cons (isR232 h) (.nil))) (by kernel_rfl) runR236
theorem isR237 : PureC Tryz.prog (Go.Ax.frozen W) (eR237).1 (eR237).2.1 (eR237).2.2 := pure_of_run (pok h (T := []) (.nil)) (by kernel_rfl) runR237
theorem isR238 : PureC Tryz.prog (Go.Ax.frozen W) (eR238).1 (eR238).2.1 (eR238).2.2 := pure_of_run (pok h (T := []) (.nil)) (by kernel_rfl) runR238
theorem isR239 : PureC Tryz.prog (Go.Ax.frozen W) (eR239).1 (eR239).2.1 (eR239).2.2 := pure_of_run (pok h (T := []) (.nil)) (by kernel_rfl) runR239
theorem isR240 : PureC Tryz.prog (Go.Ax.frozen W) (eR240).1 (eR240).2.1 (eR240).2.2 := pure_of_run (pok h (T := []) (.nil)) (by kernel_rfl) runR240
theorem isR241 : PureC Tryz.prog (Go.Ax.frozen W) (eR241).1 (eR241).2.1 (eR241).2.2 := pure_of_run (pok h (T := []) (.nil)) (by kernel_rfl) runR241
theorem isR242 : PureC Tryz.prog (Go.Ax.frozen W) (eR242).1 (eR242).2.1 (eR242).2.2 := pure_of_run (pok h (T := [eR11, eR17, eR18, eR19, eR25, eR38, eR39, eR52, eR148, eR226, eR228, eR230, eR231, eR233, eR235, eR236, eR237, eR238, eR239, eR240, eR241]) (.cons (isR11 h) (.cons (isR17 h) (.cons (isR18 h) (.cons (isR19 h) (.cons (isR25 h) (.cons (isR38 h) (.cons (isR39 h) (.cons (isR52 h) (.cons (isR148 h) (.cons (isR226 h) (.cons (isR228 h) (.cons (isR230 h) (.cons (isR231 h) (.cons (isR233 h) (.cons (isR235 h) (.cons (isR236 h) (.cons (isR237 h) (.cons (isR238 h) (.cons (isR239 h) (.cons (isR240 h) (.cons (isR241 h) (.nil))))))))))))))))))))))) (by kernel_rfl) runR242
theorem isR243 : PureC Tryz.prog (Go.Ax.frozen W) (eR243).1 (eR243).2.1 (eR243).2.2 := pure_of_run (pok h (T := [eR165]) (.cons (isR165 h) (.nil))) (by kernel_rfl) runR243
theorem isR244 : PureC Tryz.prog (Go.Ax.frozen W) (eR244).1 (eR244).2.1 (eR244).2.2 := pure_of_run (pok h (T := [eR242]) (.cons (isR242 h) (.nil))) (by kernel_rfl) runR244
theorem isR245 : PureC Tryz.prog (Go.Ax.frozen W) (eR245).1 (eR245).2.1 (eR245).2.2 := pure_of_run (pok h (T := []) (.nil)) (by kernel_rfl) runR245
theorem isR246 : PureC Tryz.prog (Go.Ax.frozen W) (eR246).1 (eR246).2.1 (eR246).2.2 := pure_of_run (pok h (T := [eR59, eR227, eR232, eR244]) (.cons (isR59 h) (.cons (isR227 h) (.cons (isR232 h) (.cons (isR244 h) (.nil)))))) (by kernel_rfl) runR246
theorem isR247 : PureC Tryz.prog (Go.Ax.frozen W) (eR247).1 (eR247).2.1 (eR247).2.2 := pure_of_run (pok h (T := []) (.nil)) (by kernel_rfl) runR247
theorem isR248 : PureC Tryz.prog (Go.Ax.frozen W) (eR248).1 (eR248).2.1 (eR248).2.2 := pure_of_run (pok h (T := [eR247]) (.cons (isR247 h) (.nil))) (by kernel_rfl) runR248
theorem isR249 : PureC Tryz.prog (Go.Ax.frozen W) (eR249).1 (eR249).2.1 (eR249).2.2 := pure_of_run (pok h (T := [eR247]) (.cons (isR247 h) (.nil))) (by kernel_rfl) runR249
theorem isR250 : PureC Tryz.prog (Go.Ax.frozen W) (eR250).1 (eR250).2.1 (eR250).2.2 := pure_of_run (pok h (T := [eR247]) (.cons (isR247 h) (.nil))) (by kernel_rfl) runR250
theorem isR251 : PureC Tryz.prog (Go.Ax.frozen W) (eR251).1 (eR251).2.1 (eR251).2.2 := pure_of_run (pok h (T := [eR247]) (.cons (isR247 h) (.nil))) (by kernel_rfl) runR251
theorem isR252 : PureC Tryz.prog (Go.Ax.frozen W) (eR252).1 (eR252).2.1 (eR252).2.2 := pure_of_run (pok h (T := [eR247]) (.cons (isR247 h) (.nil))) (by kernel_rfl) runR252
theorem isR253 : PureC Tryz.prog (Go.Ax.frozen W) (eR253).1 (eR253).2.1 (eR253).2.2 := pure_of_run (pok h (T := [eR247]) (.cons (isR247 h) (.nil))) (by kernel_rfl) runR253
theorem isR254 : PureC Tryz.prog (Go.Ax.frozen W) (eR254).1 (eR254).2.1 (eR254).2.2 := pure_of_run (pok h (T := [eR247]) (.cons (isR247 h) (.nil))) (by kernel_rfl) runR254
theorem isR255 : PureC Tryz.prog (Go.Ax.frozen W) (eR255).1 (eR255).2.1 (eR255).2.2 := pure_of_run (pok h (T := [eR247]) (.cons (isR247 h) (.nil))) (by kernel_rfl) runR255
theorem isR256 : PureC Tryz.prog (Go.Ax.frozen W) (eR256).1 (eR256).2.1 (eR256).2.2 := pure_of_run (pok h (T := [eR247]) (.cons (isR247 h) (.nil))) (by kernel_rfl) runR256
theorem isR257 : PureC Tryz.prog (Go.Ax.frozen W) (eR257).1 (eR257).2.1 (eR257).2.2 := pure_of_run (pok h (T := [eR247]) (.cons (isR247 h) (.nil))) (by kernel_rfl) runR257
theorem isR258 : PureC Tryz.prog (Go.Ax.frozen W) (eR258).1 (eR258).2.1 (eR258).2.2 := pure_of_run (pok h (T := [eR247]) (.cons (isR247 h) (.nil))) (by kernel_rfl) runR258
theorem isR259 : PureC Tryz.prog (Go.Ax.frozen W) (eR259).1 (eR259).2.1 (eR259).2.2 := pure_of_run (pok h (T := [eR247]) (.cons (isR247 h) (.nil))) (by kernel_rfl) runR259
theorem isR260 : PureC Tryz.prog (Go.Ax.frozen W) (eR260).1 (eR260).2.1 (eR260).2.2 := pure_of_run (pok h (T := [eR247]) (.cons (isR247 h) (.nil))) (by kernel_rfl) runR260
theorem isR261 : PureC Tryz.prog (Go.Ax.frozen W) (eR261).1 (eR261).2.1 (eR261).2.2 := pure_of_all (pok h (T := [eR59, eR64, eR65, eR66, eR172, eR173, eR227, eR232, eR244, eR245, eR246, eR248, eR249, eR250, eR251, eR252, eR253, eR254, eR255, eR256, eR257, eR258, eR259, eR260]) (.cons (isR59 h) (.cons (isR64 h) (.cons (isR65 h) (.cons (isR66 h) (.cons (isR172 h) (.cons (isR173 h) (.cons (isR227 h) (.cons (isR232 h) (.cons (isR244 h) (.cons (isR245 h) (.cons (isR246 h) (.cons (isR248 h) (.cons (isR249 h) (.cons (isR250 h) (.cons (isR251 h) (.cons (isR252 h) (.cons (isR253 h) (.cons (isR254 h) (.cons (isR255 h) (.cons (isR256 h) (.cons (isR257 h) (.cons (isR258 h) (.cons (isR259 h) (.cons (isR260 h) (.nil)))))))))))))))))))))))))) (by kernel_rfl) runR261
theorem isR262 : PureC Tryz.prog (Go.Ax.frozen W) (eR262).1 (eR262).2.1 (eR262).2.2 := pure_of_run (pok h (T := [eR261]) (.cons (isR261 h) (.nil))) (by kernel_rfl) runR262
theorem isR263 : PureC Tryz.prog (Go.Ax.frozen W) (eR263).1 (eR263).2.1 (eR263).2.2 := pure_of_run (pok h (T := [eR12, eR18, eR20, eR26, eR149, eR165, eR232, eR241]) (.cons (isR12 h) (.cons (isR18 h) (.cons (isR20 h) (.cons (isR26 h) (.cons (isR149 h) (.cons (isR165 h) (.cons (isR232 h) (.cons (isR241 h) (.nil)))))))))) (by kernel_rfl) runR263
theorem isR264 : PureC Tryz.prog (Go.Ax.frozen W) (eR264).1 (eR264).2.1 (eR264).2.2 := pure_of_run (pok h (T := [eR31]) (.cons (isR31 h) (.nil))) (by kernel_rfl) runR264
theorem isR265 : PureC Tryz.prog (Go.Ax.frozen W) (eR265).1 (eR265).2.1 (eR265).2.2 := pure_of_run (pok h (T := [eR264]) (.cons (isR264 h) (.nil))) (by kernel_rfl) runR265
theorem isR266 : PureC Tryz.prog (Go.Ax.frozen W) (eR266).1 (eR266).2.1 (eR266).2.2 := pure_of_run (pok h (T := []) (.nil)) (by kernel_rfl) runR266
theorem isR267 : PureC Tryz.prog (Go.Ax.frozen W) (eR267).1 (eR267).2.1 (eR267).2.2 := pure_of_run (pok h (T := [eR12, eR18, eR20, eR26, eR52, eR149, eR165, eR237, eR238, eR239, eR241, eR265, eR266]) (.cons (isR12 h) (.cons (isR18 h) (.cons (isR20 h) (.cons (isR26 h) (.cons (isR52 h) (.cons (isR149 h) (.cons (isR165 h) (.cons (isR237 h) (.cons (isR238 h) (.cons (isR239 h) (.cons (isR241 h) (.cons (isR265 h) (.cons (isR266 h) (.nil))))))))))))))) (by kernel_rfl) runR267
theorem isR268 : PureC Tryz.prog (Go.Ax.frozen W) (eR268).1 (eR268).2.1 (eR268).2.2 := pure_of_run (pok h (T := [eR31]) (.cons (isR31 h) (.nil))) (by kernel_rfl) runR268
theorem isR269 : PureC Tryz.prog (Go.Ax.frozen W) (eR269).1 (eR269).2.1 (eR269).2.2 := pure_of_run (pok h (T := [eR268]) (.cons (isR268 h) (.nil))) (by kernel_rfl) runR269
theorem isR270 : PureC Tryz.prog (Go.Ax.frozen W) (eR270).1 (eR270).2.1 (eR270).2.2 := pure_of_run (pok h (T := [eR269]) (.cons (isR269 h) (.nil))) (by kernel_rfl) runR270
theorem isR271 : PureC Tryz.prog (Go.Ax.frozen W) (eR271).1 (eR271).2.1 (eR271).2.2 := pure_of_run (pok h (T := [eR269]) (.cons (isR269 h) (.nil))) (by kernel_rfl) runR271
theorem isR272 : PureC Tryz.prog (Go.Ax.frozen W) (eR272).1 (eR272).2.1 (eR272).2.2 := pure_of_run (pok h (T := [eR270, eR271]) (.cons (isR270 h) (.cons (isR271 h) (.nil)))) (by kernel_rfl) runR272
theorem isR273 : PureC Tryz.prog (Go.Ax.frozen W) (eR273).1 (eR273).2.1 (eR273).2.2 := pure_of_run (pok h (T := [eR269]) (.cons (isR269 h) (.nil))) (by kernel_rfl) runR273
theorem isR274 : PureC Tryz.prog (Go.Ax.frozen W) (eR274).1 (eR274).2.1 (eR274).2.2 := pure_of_run (pok h (T := [eR268]) (.cons (isR268 h) (.nil))) (by kernel_rfl) runR274
theorem isR275 : PureC Tryz.prog (Go.Ax.frozen W) (eR275).1 (eR275).2.1 (eR275).2.2 := pure_of_run (pok h (T := [eR274]) (.cons (isR274 h) (.nil))) (by kernel_rfl) runR275
theorem isR276 : PureC Tryz.prog (Go.Ax.frozen W) (eR276).1 (eR276).2.1 (eR276).2.2 := pure_of_run (pok h (T := [eR274]) (.cons (isR274 h) (.nil))) (by kernel_rfl) runR276
theorem isR277 : PureC Tryz.prog (Go.Ax.frozen W) (eR277).1 (eR277).2.1 (eR277).2.2 := pure_of_run (pok h (T := [eR275, eR276]) (.cons (isR275 h) (.cons (isR276 h) (.nil)))) (by kernel_rfl) runR277
theorem isR278 : PureC Tryz.prog (Go.Ax.frozen W) (eR278).1 (eR278).2.1 (eR278).2.2 := pure_of_run (pok h (T := [eR274]) (.cons (isR274 h) (.nil))) (by kernel_rfl) runR278
theorem isR279 : PureC Tryz.prog (Go.Ax.frozen W) (eR279).1 (eR279).2.1 (eR279).2.2 := pure_of_run (pok h (T := []) (.nil)) (by kernel_rfl) runR279
theorem isR280 : PureC Tryz.prog (Go.Ax.frozen W) (eR280).1 (eR280).2.1 (eR280).2.2 := pure_of_run (pok h (T := []) (.nil)) (by kernel_rfl) runR280
theorem isR281 : PureC Tryz.prog (Go.Ax.frozen W) (eR281).1 (eR281).2.1 (eR281).2.2 := pure_of_run (pok h (T := [eR11, eR17, eR18, eR19, eR25, eR38, eR39, eR52, eR148, eR237, eR238, eR239, eR268, eR270, eR272, eR273, eR275, eR277, eR278, eR279, eR280]) (.cons (isR11 h) (.cons (isR17 h) (.cons (isR18 h) (.cons (isR19 h) (.cons (isR25 h) (.cons (isR38 h) (.cons (isR39 h) (.cons (isR52 h) (.cons (isR148 h) (.cons (isR237 h) (.cons (isR238 h) (.cons (isR239 h) (.cons (isR268 h) (.cons (isR270 h) (.cons (isR272 h) (.cons (isR273 h) (.cons (isR275 h) (.cons (isR277 h) (.cons (isR278 h) (.cons (isR279 h) (.cons (isR280 h) (.nil))))))))))))))))))))))) (by kernel_rfl) runR281
theorem isR282 : PureC Tryz.prog (Go.Ax.frozen W) (eR282).1 (eR282).2.1 (eR282).2.2 := pure_of_run (pok h (T := [eR281]) (.cons (isR281 h) (.nil))) (by kernel_rfl) runR282
theorem isR283 : PureC Tryz.prog (Go.Ax.frozen W) (eR283).1 (eR283).2.1 (eR283).2.2 := pure_of_run (pok h (T := [eR59, eR269, eR274, eR282]) (.cons (isR59 h) (.cons (isR269 h) (.cons (isR274 h) (.cons (isR282 h) (.nil)))))) (by kernel_rfl) runR283
theorem isR284 : PureC Tryz.prog (Go.Ax.frozen W) (eR284).1 (eR284).2.1 (eR284).2.2 := pure_of_all (pok h (T := [eR59, eR60, eR63, eR64, eR65, eR66, eR67, eR68, eR72, eR73, eR74, eR75, eR76, eR77, eR78, eR79, eR80, eR172, eR173, eR269, eR274, eR282, eR283]) (.cons (isR59 h) (.cons (isR60 h) (.cons (isR63 h) (.cons (isR64 h) (.cons (isR65 h) (.cons (isR66 h) (.cons (isR67 h) (.cons (isR68 h) (.cons (isR72 h) (.cons (isR73 h) (.cons (isR74 h) (.cons (isR75 h) (.cons (isR76 h) (.cons (isR77 h) (.cons (isR78 h) (.cons (isR79 h) (.cons (isR80 h) (.cons (isR172 h) (.cons (isR173 h) (.cons (isR269 h) (.cons (isR274 h) (.cons (isR282 h) (.cons (isR283 h) (.nil))))))))))))))))))))))))) (by kernel_rfl) runR284
theorem isR285 : PureC Tryz.prog (Go.Ax.frozen W) (eR285).1 (eR285).2.1 (eR285).2.2 := pure_of_run (pok h (T := [eR59, eR269, eR274, eR282]) (.cons (isR59 h) (.cons (isR269 h) (.cons (isR274 h) (.cons (isR282 h) (.nil)))))) (by kernel_rfl) runR285
theorem isR286 : PureC Tryz.prog (Go.Ax.frozen W) (eR286).1 (eR286).2.1 (eR286).2.2 := pure_of_run (pok h (T := []) (.nil)) (by kernel_rfl) runR286
theorem isR287 : PureC Tryz.prog (Go.Ax.frozen W) (eR287).1 (eR287).2.1 (eR287).2.2 := pure_of_run (pok h (T := [eR286]) (.cons (isR286 h) (.nil))) (by kernel_rfl) runR287
theorem isR288 : PureC Tryz.prog (Go.Ax.frozen W) (eR288).1 (eR288).2.1 (eR288).2.2 := pure_of_run (pok h (T := [eR84, eR284, eR285, eR287]) (.cons (isR84 h) (.cons (isR284 h) (.cons (isR285 h) (.cons (isR287 h) (.nil)))))) (by kernel_rfl) runR288
theorem isR289 : PureC Tryz.prog (Go.Ax.frozen W) (eR289).1 (eR289).2.1 (eR289).2.2 := pure_of_run (pok h (T := [eR12, eR18, eR20, eR26, eR149, eR165, eR274, eR280]) (.cons (isR12 h) (.cons (isR18 h) (.cons (isR20 h) (.cons (isR26 h) (.cons (isR149 h) (.cons (isR165 h) (.cons (isR274 h) (.cons (isR280 h) (.nil)))))))))) (by kernel_rfl) runR289
theorem isR290 : PureC Tryz.prog (Go.Ax.frozen W) (eR290).1 (eR290).2.1 (eR290).2.2 := pure_of_run (pok h (T := [eR31]) (.cons (isR31 h) (.nil))) (by kernel_rfl) runR290
theorem isR291 : PureC Tryz.prog (Go.Ax.frozen W) (eR291).1 (eR291).2.1 (eR291).2.2 := pure_of_run (pok h (T := [eR290]) (.cons (isR290 h) (.nil))) (by kernel_rfl) runR291
theorem isR292 : PureC Tryz.prog (Go.Ax.frozen W) (eR292).1 (eR292).2.1 (eR292).2.2 := pure_of_run (pok h (T := [eR12, eR20, eR26, eR52, eR149, eR165, eR186, eR237, eR238, eR239, eR280, eR291]) (.cons (isR12 h) (.cons (isR20 h) (.cons (isR26 h) (.cons (isR52 h) (.cons (isR149 h) (.cons (isR165 h) (.cons (isR186 h) (.cons (isR237 h) (.cons (isR238 h) (.cons (isR239 h) (.cons (isR280 h) (.cons (isR291 h) (.nil)))))))))))))) (by kernel_rfl) runR292
theorem isR293 : PureC Tryz.prog (Go.Ax.frozen W) (eR293).1 (eR293).2.1 (eR293).2.2 := pure_of_run (pok h (T := [eR31]) (.cons (isR31 h) (.nil))) (by kernel_rfl) runR293
theorem isR294 : PureC Tryz.prog (Go.Ax.frozen W) (eR294).1 (eR294).2.1 (eR294).2.2 := pure_of_run (pok h (T := [eR293]) (.cons (isR293 h) (.nil))) (by kernel_rfl) runR294
theorem isR295 : PureC Tryz.prog (Go.Ax.frozen W) (eR295).1 (eR295).2.1 (eR295).2.2 := pure_of_run (pok h (T := [eR294]) (.cons (isR294 h) (.nil))) (by kernel_rfl) runR295
theorem isR296 : PureC Tryz.prog (Go.Ax.frozen W) (eR296).1 (eR296).2.1 (eR296).2.2 := pure_of_run (pok h (T := [eR294]) (.cons (isR294 h) (.nil))) (by kernel_rfl) runR296
theorem isR297 : PureC Tryz.prog (Go.Ax.frozen W) (eR297).1 (eR297).2.1 (eR297).2.2 := pure_of_run (pok h (T := [eR295, eR296]) (.cons (isR295 h) (.cons (isR296 h) (.nil)))) (by kernel_rfl) runR297
theorem isR298 : PureC Tryz.prog (Go.Ax.frozen W) (eR298).1 (eR298).2.1 (eR298).2.2 := pure_of_run (pok h (T := [eR294]) (.cons (isR294 h) (.nil))) (by kernel_rfl) runR298
theorem isR299 : PureC Tryz.prog (Go.Ax.frozen W) (eR299).1 (eR299).2.1 (eR299).2.2 := pure_of_run (pok h (T := [eR293]) (.cons (isR293 h) (.nil))) (by kernel_rfl) runR299
theorem isR300 : PureC Tryz.prog (Go.Ax.frozen W) (eR300).1 (eR300).2.1 (eR300).2.2 := pure_of_run (pok h (T := [eR299]) (.cons (isR299 h) (.nil))) (by kernel_rfl) runR300
theorem isR301 : PureC Tryz.prog (Go.Ax.frozen W) (eR301).1 (eR301).2.1 (eR301).2.2 := pure_of_run (pok h (T := [eR299]) (.cons (isR299 h) (.nil))) (by kernel_rfl) runR301
theorem isR302 : PureC Tryz.prog (Go.Ax.frozen W) (eR302).1 (eR302).2.1 (eR302).2.2 := pure_of_run (pok h (T := [eR300, eR301]) (.cons (isR300 h) (.cons (isR301 h) (.nil)))) (by kernel_rfl) runR302
theorem isR303 : PureC Tryz.prog (Go.Ax.frozen W) (eR303).1 (eR303).2.1 (eR303).2.2 := pure_of_run (pok h (T := [eR299]) (.cons (isR299 h) (.nil))) (by kernel_rfl) runR303
theorem isR304 : PureC Tryz.prog (Go.Ax.frozen W) (eR304).1 (eR304).2.1 (eR304).2.2 := pure_of_run (pok h (T := []) (.nil)) (by kernel_rfl) runR304
theorem isR305 : PureC Tryz.prog (Go.Ax.frozen W) (eR305).1 (eR305).2.1 (eR305).2.2 := pure_of_run (pok h (T := [eR11, eR19, eR25, eR38, eR39, eR52, eR148, eR186, eR237, eR238, eR239, eR293, eR295, eR297, eR298, eR300, eR302, eR303, eR304]) (.cons (isR11 h) (.cons (isR19 h) (.cons (isR25 h) (.cons (isR38 h) (.cons (isR39 h) (.cons (isR52 h) (.cons (isR148 h) (.cons (isR186 h) (.cons (isR237 h) (.cons (isR238 h) (.cons (isR239 h) (.cons (isR293 h) (.cons (isR295 h) (.cons (isR297 h) (.cons (isR298 h) (.cons (isR300 h) (.cons (isR302 h) (.cons (isR303 h) (.cons (isR304 h) (.nil))))))))))))))))))))) (by kernel_rfl) runR305
theorem isR306 : PureC Tryz.prog (Go.Ax.frozen W) (eR306).1 (eR306).2.1 (eR306).2.2 := pure_of_run (pok h (T := [eR305]) (.cons (isR305 h) (.nil))) (by kernel_rfl) runR306
theorem isR307 : PureC Tryz.prog (Go.Ax.frozen W) (eR307).1 (eR307).2.1 (eR307).2.2 := pure_of_run (pok h (T := []) (.nil)) (by kernel_rfl) runR307
theorem isR308 : PureC Tryz.prog (Go.Ax.frozen W) (eR308).1 (eR308).2.1 (eR308).2.2 := pure_of_run (pok h (T := [eR59, eR294, eR299, eR306]) (.cons (isR59 h) (.cons (isR294 h) (.cons (isR299 h) (.cons (isR306 h) (.nil)))))) (by kernel_rfl) runR308
theorem isR309 : PureC Tryz.prog (Go.Ax.frozen W) (eR309).1 (eR309).2.1 (eR309).2.2 := pure_of_run (pok h (T := []) (.nil)) (by kernel_rfl) runR309
theorem isR310 : PureC Tryz.prog (Go.Ax.frozen W) (eR310).1 (eR310).2.1 (eR310).2.2 := pure_of_run (pok h (T := [eR309]) (.cons (isR309 h) (.nil))) (by kernel_rfl) runR310
theorem isR311 : PureC Tryz.prog (Go.Ax.frozen W) (eR311).1 (eR311).2.1 (eR311).2.2 := pure_of_run (pok h (T := [eR309]) (.cons (isR309 h) (.nil))) (by kernel_rfl) runR311
theorem isR312 : PureC Tryz.prog (Go.Ax.frozen W) (eR312).1 (eR312).2.1 (eR312).2.2 := pure_of_run (pok h (T := [eR309]) (.cons (isR309 h) (.nil))) (by kernel_rfl) runR312
theorem isR313 : PureC Tryz.prog (Go.Ax.frozen W) (eR313).1 (eR313).2.1 (eR313).2.2 := pure_of_run (pok h (T := [eR309]) (.cons (isR309 h) (.nil))) (by kernel_rfl) runR313
theorem isR314 : PureC Tryz.prog (Go.Ax.frozen W) (eR314).1 (eR314).2.1 (eR314).2.2 := pure_of_run (pok h (T := [eR309]) (.cons (isR309 h) (.nil))) (by kernel_rfl) runR314
theorem isR315 : PureC Tryz.prog (Go.Ax.frozen W) (eR315).1 (eR315).2.1 (eR315).2.2 := pure_of_run (pok h (T := [eR309]) (.cons (isR309 h) (.nil))) (by kernel_rfl) runR315
theorem isR316 : PureC Tryz.prog (Go.Ax.frozen W) (eR316).1 (eR316).2.1 (eR316).2.2 := pure_of_run (pok h (T := [eR309]) (.cons (isR309 h) (.nil))) (by kernel_rfl) runR316
theorem isR317 : PureC Tryz.prog (Go.Ax.frozen W) (eR317).1 (eR317).2.1 (eR317).2.2 := pure_of_run (pok h (T := [eR309]) (.cons (isR309 h) (.nil))) (by kernel_rfl) runR317
theorem isR318 : PureC Tryz.prog (Go.Ax.frozen W) (eR318).1 (eR318).2.1 (eR318).2.2 := pure_of_run (pok h (T := [eR309]) (.cons (isR309 h) (.nil))) (by kernel_rfl) runR318
theorem isR319 : PureC Tryz.prog (Go.Ax.frozen W) (eR319).1 (eR319).2.1 (eR319).2.2 := pure_of_run (pok h (T := [eR309]) (.cons (isR309 h) (.nil))) (by kernel_rfl) runR319
theorem isR320 : PureC Tryz.prog (Go.Ax.frozen W) (eR320).1 (eR320).2.1 (eR320).2.2 := pure_of_run (pok h (T := [eR309]) (.cons (isR309 h) (.nil))) (by kernel_rfl) runR320
theorem isR321 : PureC Tryz.prog (Go.Ax.frozen W) (eR321).1 (eR321).2.1 (eR321).2.2 := pure_of_all (pok h (T := [eR59, eR64, eR65, eR66, eR172, eR173, eR294, eR299, eR306, eR307, eR308, eR310, eR311, eR312, eR313, eR314, eR315, eR316, eR317, eR318, eR319, eR320]) (.cons (isR59 h) (.cons (isR64 h) (.cons (isR65 h) (.cons (isR66 h) (.cons (isR172 h) (.cons (isR173 h) (.cons (isR294 h) (.cons (isR299 h) (.cons (isR306 h) (.cons (isR307 h) (.cons (isR308 h) (.cons (isR310 h) (.cons (isR311 h) (.cons (isR312 h) (.cons (isR313 h) (.cons (isR314 h) (.cons (isR315 h) (.cons (isR316 h) (.cons (isR317 h) (.cons (isR318 h) (.cons (isR319 h) (.cons (isR320 h) (.nil)))))))))))))))))))))))) (by kernel_rfl) runR321
theorem isR322 : PureC Tryz.prog (Go.Ax.frozen W) (eR322).1 (eR322).2.1 (eR322).2.2 := pure_of_run (pok h (T := [eR321]) (.cons (isR321 h) (.nil))) (by kernel_rfl) runR322
theorem isR323 : PureC Tryz.prog (Go.Ax.frozen W) (eR323).1 (eR323).2.1 (eR323).2.2 := pure_of_run (pok h (T := [eR242, eR243, eR262, eR263, eR267, eR288, eR289, eR292, eR322]) (.cons (isR242 h) (.cons (isR243 h) (.cons (isR262 h) (.cons (isR263 h) (.cons (isR267 h) (.cons (isR288 h) (.cons (isR289 h) (.cons (isR292 h) (.cons (isR322 h) (.nil))))))))))) (by kernel_rfl) runR323
theorem isR324 : PureC Tryz.prog (Go.Ax.frozen W) (eR324).1 (eR324).2.1 (eR324).2.2 := pure_of_run (pok h (T := []) (.nil)) (by kernel_rfl) runR324
theorem isR325 : PureC Tryz.prog (Go.Ax.frozen W) (eR325).1 (eR325).2.1 (eR325).2.2 := pure_of_run (pok h (T := []) (.nil)) (by kernel_rfl) runR325
theorem isR326 : PureC Tryz.prog (Go.Ax.frozen W) (eR326).1 (eR326).2.1 (eR326).2.2 := pure_of_run (pok h (T := [eR11, eR19, eR25, eR38, eR52, eR148, eR186, eR214, eR215, eR216, eR237, eR238, eR239, eR293, eR324, eR325]) (.cons (isR11 h) (.cons (isR19 h) (.cons (isR25 h) (.cons (isR38 h) (.cons (isR52 h) (.cons (isR148 h) (.cons (isR186 h) (.cons (isR214 h) (.cons (isR215 h) (.cons (isR216 h) (.cons (isR237 h) (.cons (isR238 h) (.cons (isR239 h) (.cons (isR293 h) (.cons (isR324 h) (.cons (isR325 h) (.nil)))))))))))))))))) (by kernel_rfl) runR326
theorem isR327 : PureC Tryz.prog (Go.Ax.frozen W) (eR327).1 (eR327).2.1 (eR327).2.2 := pure_of_run (pok h (T := []) (.nil)) (by kernel_rfl) runR327
theorem isR328 : PureC Tryz.prog (Go.Ax.frozen W) (eR328).1 (eR328).2.1 (eR328).2.2 := pure_of_run (pok h (T := [eR2]) (.cons (isR2 h) (.nil))) (by kernel_rfl) runR328
theorem isR329 : PureC Tryz.prog (Go.Ax.frozen W) (eR329).1 (eR329).2.1 (eR329).2.2 := pure_of_run (pok h (T := [eR3, eR4, eR6, eR9, eR10, eR11, eR12, eR16, eR17, eR18, eR21, eR25, eR26, eR27, eR28, eR147, eR327, eR328]) (.cons (isR3 h) (.cons (isR4 h) (.cons (isR6 h) (.cons (isR9 h) (.cons (isR10 h) (.cons (isR11 h) (.cons (isR12 h) (.cons (isR16 h) (.cons (isR17 h) (.cons (isR18 h) (.cons (isR21 h) (.cons (isR25 h) (.cons (isR26 h) (.cons (isR27 h) (.cons (isR28 h) (.cons (isR147 h) (.cons (isR327 h) (.cons (isR328 h) (.nil)))))))))))))))))))) (by kernel_rfl) runR329
theorem isR330 : PureC Tryz.prog (Go.Ax.frozen W) (eR330).1 (eR330).2.1 (eR330).2.2 := pure_of_run (pok h (T := [eR31]) (.cons (isR31 h) (.nil))) (by kernel_rfl) runR330
theorem isR331 : PureC Tryz.prog (Go.Ax.frozen W) (eR331).1 (eR331).2.1 (eR331).2.2 := pure_of_run (pok h (T := [eR330]) (.cons (isR330 h) (.nil))) (by kernel_rfl) runR331
theorem isR332 : PureC Tryz.prog (Go.Ax.frozen W) (eR332).1 (eR332).2.1 (eR332).2.2 := pure_of_run (pok h (T := [eR331]) (.cons (isR331 h) (.nil))) (by kernel_rfl) runR332
theorem isR333 : PureC Tryz.prog (Go.Ax.frozen W) (eR333).1 (eR333).2.1 (eR333).2.2 := pure_of_run (pok h (T := [eR331]) (.cons (isR331 h) (.nil))) (by kernel_rfl) runR333
theorem isR334 : PureC Tryz.prog (Go.Ax.frozen W) (eR334).1 (eR334).2.1 (eR334).2.2 := pure_of_run (pok h (T := [eR332, eR333]) (.cons (isR332 h) (.cons (isR333 h) (.nil)))) (by kernel_rfl) runR334
theorem isR335 : PureC Tryz.prog (Go.Ax.frozen W) (eR335).1 (eR335).2.1 (eR335).2.2 := pure_of_run (pok h (T := [eR331]) (.cons (isR331 h) (.nil))) (by kernel_rfl) runR335
theorem isR336 : PureC Tryz.prog (Go.Ax.frozen W) (eR336).1 (eR336).2.1 (eR336).2.2 := pure_of_run (pok h (T := [eR330]) (.cons (isR330 h) (.nil))) (by kernel_rfl) runR336
theorem isR337 : PureC Tryz.prog (Go.Ax.frozen W) (eR337).1 (eR337).2.1 (eR337).2.2 := pure_of_run (pok h (T := [eR336]) (.cons (isR336 h) (.nil))) (by kernel_rfl) runR337
theorem isR338 : PureC Tryz.prog (Go.Ax.frozen W) (eR338).1 (eR338).2.1 (eR338).2.2 := pure_of_run (pok h (T := [eR336]) (.cons (isR336 h) (.nil))) (by kernel_rfl) runR338
theorem isR339 : PureC Tryz.prog (Go.Ax.frozen W) (eR339).1 (eR339).2.1 (eR339).2.2 := pure_of_run (pok h (T := [eR337, eR338]) (.cons (isR337 h) (.cons (isR338 h) (.nil)))) (by kernel_rfl) runR339
theorem isR340 : PureC Tryz.prog (Go.Ax.frozen W) (eR340).1 (eR340).2.1 (eR340).2.2 := pure_of_run (pok h (T := [eR336]) (.cons (isR336 h) (.nil))) (by kernel_rfl) runR340
theorem isR341 : PureC Tryz.prog (Go.Ax.frozen W) (eR341).1 (eR341).2.1 (eR341).2.2 := pure_of_run (pok h (T := [eR11, eR17, eR18, eR25, eR27, eR28, eR38, eR39, eR52, eR163, eR330, eR332, eR334, eR335, eR337, eR339, eR340]) (.cons (isR11 h) (.cons (isR17 h) (.cons (isR18 h) (.cons (isR25 h) (.cons (isR27 h) (.cons (isR28 h) (.cons (isR38 h) (.cons (isR39 h) (.cons (isR52 h) (.cons (isR163 h) (.cons (isR330 h) (.cons (isR332 h) (.cons (isR334 h) (.cons (isR335 h) (.cons (isR337 h) (.cons (isR339 h) (.cons (isR340 h) (.nil))))))))))))))))))) (by kernel_rfl) runR341
theorem isR342 : PureC Tryz.prog (Go.Ax.frozen W) (eR342).1 (eR342).2.1 (eR342).2.2 := pure_of_run (pok h (T := [eR165]) (.cons (isR165 h) (.nil))) (by kernel_rfl) runR342
theorem isR343 : PureC Tryz.prog (Go.Ax.frozen W) (eR343).1 (eR343).2.1 (eR343).2.2 := pure_of_run (pok h (T := [eR341]) (.cons (isR341 h) (.nil))) (by kernel_rfl) runR343
theorem isR344 : PureC Tryz.prog (Go.Ax.frozen W) (eR344).1 (eR344).2.1 (eR344).2.2 := pure_of_run (pok h (T := [eR59, eR331, eR336, eR343]) (.cons (isR59 h) (.cons (isR331 h) (.cons (isR336 h) (.cons (isR343 h) (.nil)))))) (by kernel_rfl) runR344
theorem isR345 : PureC Tryz.prog (Go.Ax.frozen W) (eR345).1 (eR345).2.1 (eR345).2.2 := pure_of_all (pok h (T := [eR59, eR64, eR168, eR171, eR172, eR173, eR174, eR175, eR176, eR177, eR178, eR179, eR180, eR331, eR336, eR343, eR344]) (.cons (isR59 h) (.cons (isR64 h) (.cons (isR168 h) (.cons (isR171 h) (.cons (isR172 h) (.cons (isR173 h) (.cons (isR174 h) (.cons (isR175 h) (.cons (isR176 h) (.cons (isR177 h) (.cons (isR178 h) (.cons (isR179 h) (.cons (isR180 h) (.cons (isR331 h) (.cons (isR336 h) (.cons (isR343 h) (.cons (isR344 h) (.nil))))))))))))))))))) (by kernel_rfl) runR345
theorem isR346 : PureC Tryz.prog (Go.Ax.frozen W) (eR346).1 (eR346).2.1 (eR346).2.2 := pure_of_run (pok h (T := [eR345]) (.cons (isR345 h) (.nil))) (by kernel_rfl) runR346
theorem isR347 : PureC Tryz.prog (Go.Ax.frozen W) (eR347).1 (eR347).2.1 (eR347).2.2 := pure_of_run (pok h (T := [eR341, eR342, eR346]) (.cons (isR341 h) (.cons (isR342 h) (.cons (isR346 h) (.nil))))) (by kernel_rfl) runR347
theorem isR348 : PureC Tryz.prog (Go.Ax.frozen W) (eR348).1 (eR348).2.1 (eR348).2.2 := pure_of_run (pok h (T := [eR11, eR17, eR18, eR25, eR27, eR28, eR38, eR52, eR214, eR215, eR216, eR324, eR330]) (.cons (isR11 h) (.cons (isR17 h) (.cons (isR18 h) (.cons (isR25 h) (.cons (isR27 h) (.cons (isR28 h) (.cons (isR38 h) (.cons (isR52 h) (.cons (isR214 h) (.cons (isR215 h) (.cons (isR216 h) (.cons (isR324 h) (.cons (isR330 h) (.nil))))))))))))))) (by kernel_rfl) runR348
theorem isR349 : PureC Tryz.prog (Go.Ax.frozen W) (eR349).1 (eR349).2.1 (eR349).2.2 := pure_of_run (pok h (T := [eR165]) (.cons (isR165 h) (.nil))) (by kernel_rfl) runR349
theorem isR350 : PureC Tryz.prog (Go.Ax.frozen W) (eR350).1 (eR350).2.1 (eR350).2.2 := pure_of_run (pok h (T := [eR81, eR82, eR84]) (.cons (isR81 h) (.cons (isR82 h) (.cons (isR84 h) (.nil))))) (by kernel_rfl) runR350
theorem isR351 : PureC Tryz.prog (Go.Ax.frozen W) (eR351).1 (eR351).2.1 (eR351).2.2 := pure_of_run (pok h (T := [eR55, eR349, eR350]) (.cons (isR55 h) (.cons (isR349 h) (.cons (isR350 h) (.nil))))) (by kernel_rfl) runR351
theorem isR352 : PureC Tryz.prog (Go.Ax.frozen W) (eR352).1 (eR352).2.1 (eR352).2.2 := pure_of_run (pok h (T := []) (.nil)) (by kernel_rfl) runR352
theorem isR353 : PureC Tryz.prog (Go.Ax.frozen W) (eR353).1 (eR353).2.1 (eR353).2.2 := pure_of_run (pok h (T := []) (.nil)) (by kernel_rfl) runR353
theorem isR354 : PureC Tryz.prog (Go.Ax.frozen W) (eR354).1 (eR354).2.1 (eR354).2.2 := pure_of_run (pok h (T := [eR11, eR17, eR18, eR19, eR25, eR27, eR32, eR38, eR45, eR52, eR214, eR215, eR216, eR324, eR352, eR353]) (.cons (isR11 h) (.cons (isR17 h) (.cons (isR18 h) (.cons (isR19 h) (.cons (isR25 h) (.cons (isR27 h) (.cons (isR32 h) (.cons (isR38 h) (.cons (isR45 h) (.cons (isR52 h) (.cons (isR214 h) (.cons (isR215 h) (.cons (isR216 h) (.cons (isR324 h) (.cons (isR352 h) (.cons (isR353 h) (.nil)))))))))))))))))) (by kernel_rfl) runR354
theorem isR355 : PureC Tryz.prog (Go.Ax.frozen W) (eR355).1 (eR355).2.1 (eR355).2.2 := pure_of_run (pok h (T := [eR165]) (.cons (isR165 h) (.nil))) (by kernel_rfl) runR355
theorem isR356 : PureC Tryz.prog (Go.Ax.frozen W) (eR356).1 (eR356).2.1 (eR356).2.2 := pure_of_run (pok h (T := [eR84, eR135, eR136, eR138]) (.cons (isR84 h) (.cons (isR135 h) (.cons (isR136 h) (.cons (isR138 h) (.nil)))))) (by kernel_rfl) runR356
theorem isR357 : PureC Tryz.prog (Go.Ax.frozen W) (eR357).1 (eR357).2.1 (eR357).2.2 := pure_of_run (pok h (T := [eR18, eR20, eR46, eR99, eR165]) (.cons (isR18 h) (.cons (isR20 h) (.cons (isR46 h) (.cons (isR99 h) (.cons (isR165 h) (.nil))))))) (by kernel_rfl) runR357
theorem isR358 : PureC Tryz.prog (Go.Ax.frozen W) (eR358).1 (eR358).2.1 (eR358).2.2 := pure_of_run (pok h (T := [eR31]) (.cons (isR31 h) (.nil))) (by kernel_rfl) runR358
theorem isR359 : PureC Tryz.prog (Go.Ax.frozen W) (eR359).1 (eR359).2.1 (eR359).2.2 := pure_of_run (pok h (T := [eR358]) (.cons (isR358 h) (.nil))) (by kernel_rfl) runR359
theorem isR360 : PureC Tryz.prog (Go.Ax.frozen W) (eR360).1 (eR360).2.1 (eR360).2.2 := pure_of_run (pok h (T := [eR18, eR20, eR45, eR110, eR165, eR359]) (.cons (isR18 h) (.cons (isR20 h) (.cons (isR45 h) (.cons (isR110 h) (.cons (isR165 h) (.cons (isR359 h) (.nil)))))))) (by kernel_rfl) runR360
theorem isR361 : PureC Tryz.prog (Go.Ax.frozen W) (eR361).1 (eR361).2.1 (eR361).2.2 := pure_of_run (pok h (T := [eR31]) (.cons (isR31 h) (.nil))) (by kernel_rfl) runR361
theorem isR362 : PureC Tryz.prog (Go.Ax.frozen W) (eR362).1 (eR362).2.1 (eR362).2.2 := pure_of_run (pok h (T := [eR361]) (.cons (isR361 h) (.nil))) (by kernel_rfl) runR362
theorem isR363 : PureC Tryz.prog (Go.Ax.frozen W) (eR363).1 (eR363).2.1 (eR363).2.2 := pure_of_run (pok h (T := [eR362]) (.cons (isR362 h) (.nil))) (by kernel_rfl) runR363
theorem isR364 : PureC Tryz.prog (Go.Ax.frozen W) (eR364).1 (eR364).2.1 (eR364).2.2 := pure_of_run (pok h (T := [eR362]) (.cons (isR362 h) (.nil))) (by kernel_rfl) runR364
theorem isR365 : PureC Tryz.prog (Go.Ax.frozen W) (eR365).1 (eR365).2.1 (eR365).2.2 := pure_of_run (pok h (T := [eR363, eR364]) (.cons (isR363 h) (.cons (isR364 h) (.nil)))) (by kernel_rfl) runR365
theorem isR366 : PureC Tryz.prog (Go.Ax.frozen W) (eR366).1 (eR366).2.1 (eR366).2.2 := pure_of_run (pok h (T := [eR362]) (.cons (isR362 h) (.nil))) (by kernel_rfl) runR366
theorem isR367 : PureC Tryz.prog (Go.Ax.frozen W) (eR367).1 (eR367).2.1 (eR367).2.2 := pure_of_run (pok h (T := [eR361]) (.cons (isR361 h) (.nil))) (by kernel_rfl) runR367
theorem isR368 : PureC Tryz.prog (Go.Ax.frozen W) (eR368).1 (eR368).2.1 (eR368).2.2 := pure_of_run (pok h (T := [eR367]) (.cons (isR367 h) (.nil))) (by kernel_rfl) runR368
theorem isR369 : PureC Tryz.prog (Go.Ax.frozen W) (eR369).1 (eR369).2.1 (eR369).2.2 := pure_of_run (pok h (T := [eR367]) (.cons (isR367 h) (.nil))) (by kernel_rfl) runR369
theorem isR370 : PureC Tryz.prog (Go.Ax.frozen W) (eR370).1 (eR370).2.1 (eR370).2.2 := pure_of_run (pok h (T := [eR368, eR369]) (.cons (isR368 h) (.cons (isR369 h) (.nil)))) (by kernel_rfl) runR370
theorem isR371 : PureC Tryz.prog (Go.Ax.frozen W) (eR371).1 (eR371).2.1 (eR371).2.2 := pure_of_run (pok h (T := [eR367]) (.cons (isR367 h) (.nil))) (by kernel_rfl) runR371
theorem isR372 : PureC Tryz.prog (Go.Ax.frozen W) (eR372).1 (eR372).2.1 (eR372).2.2 := pure_of_run (pok h (T := [eR361]) (.cons (isR361 h) (.nil))) (by kernel_rfl) runR372
theorem isR373 : PureC Tryz.prog (Go.Ax.frozen W) (eR373).1 (eR373).2.1 (eR373).2.2 := pure_of_run (pok h (T := [eR372]) (.cons (isR372 h) (.nil))) (by kernel_rfl) runR373
theorem isR374 : PureC Tryz.prog (Go.Ax.frozen W) (eR374).1 (eR374).2.1 (eR374).2.2 := pure_of_run (pok h (T := [eR372]) (.cons (isR372 h) (.nil))) (by kernel_rfl) runR374
theorem isR375 : PureC Tryz.prog (Go.Ax.frozen W) (eR375).1 (eR375).2.1 (eR375).2.2 := pure_of_run (pok h (T := [eR373, eR374]) (.cons (isR373 h) (.cons (isR374 h) (.nil)))) (by kernel_rfl) runR375
theorem isR376 : PureC Tryz.prog (Go.Ax.frozen W) (eR376).1 (eR376).2.1 (eR376).2.2 := pure_of_run (pok h (T := [eR372]) (.cons (isR372 h) (.nil))) (by kernel_rfl) runR376
theorem isR377 : PureC Tryz.prog (Go.Ax.frozen W) (eR377).1 (eR377).2.1 (eR377).2.2 := pure_of_run (pok h (T := [eR11, eR17, eR18, eR19, eR25, eR27, eR38, eR39, eR45, eR52, eR109, eR110, eR361, eR363, eR365, eR366, eR368, eR370, eR371, eR373, eR375, eR376]) (.cons (isR11 h) (.cons (isR17 h) (.cons (isR18 h) (.cons (isR19 h) (.cons (isR25 h) (.cons (isR27 h) (.cons (isR38 h) (.cons (isR39 h) (.cons (isR45 h) (.cons (isR52 h) (.cons (isR109 h) (.cons (isR110 h) (.cons (isR361 h) (.cons (isR363 h) (.cons (isR365 h) (.cons (isR366 h) (.cons (isR368 h) (.cons (isR370 h) (.cons (isR371 h) (.cons (isR373 h) (.cons (isR375 h) (.cons (isR376 h) (.nil)))))))))))))))))))))))) (by kernel_rfl) runR377
theorem isR378 : PureC Tryz.prog (Go.Ax.frozen W) (eR378).1 (eR378).2.1 (eR378).2.2 := pure_of_run (pok h (T := [eR377]) (.cons (isR377 h) (.nil))) (by kernel_rfl) runR378
theorem isR379 : PureC Tryz.prog (Go.Ax.frozen W) (eR379).1 (eR379).2.1 (eR379).2.2 := pure_of_run (pok h (T := [eR59, eR362, eR367, eR372, eR378]) (.cons (isR59 h) (.cons (isR362 h) (.cons (isR367 h) (.cons (isR372 h) (.cons (isR378 h) (.nil))))))) (by kernel_rfl) runR379
theorem isR380 : PureC Tryz.prog (Go.Ax.frozen W) (eR380).1 (eR380).2.1 (eR380).2.2 := pure_of_run (pok h (T := []) (.nil)) (by kernel_rfl) runR380
theorem isR381 : PureC Tryz.prog (Go.Ax.frozen W) (eR381).1 (eR381).2.1 (eR381).2.2 := pure_of_run (pok h (T := []) (.nil)) (by kernel_rfl) runR381
theorem isR382 : PureC Tryz.prog (Go.Ax.frozen W) (eR382).1 (eR382).2.1 (eR382).2.2 := pure_of_all (pok h (T := [eR59, eR64, eR65, eR66, eR69, eR118, eR119, eR124, eR245, eR248, eR249, eR250, eR251, eR252, eR253, eR254, eR255, eR256, eR257, eR258, eR259, eR260, eR362, eR367, eR372, eR378, eR379, eR380, eR381]) (.cons (isR59 h) (.cons (isR64 h) (.cons (isR65 h) (.cons (isR66 h) (.cons (isR69 h) (.cons (isR118 h) (.cons (isR119 h) (.cons (isR124 h) (.cons (isR245 h) (.cons (isR248 h) (.cons (isR249 h) (.cons (isR250 h) (.cons (isR251 h) (.cons (isR252 h) (.cons (isR253 h) (.cons (isR254 h) (.cons (isR255 h) (.cons (isR256 h) (.cons (isR257 h) (.cons (isR258 h) (.cons (isR259 h) (.cons (isR260 h) (.cons (isR362 h) (.cons (isR367 h) (.cons (isR372 h) (.cons (isR378 h) (.cons (isR379 h) (.cons (isR380 h) (.cons (isR381 h) (.nil))))))))))))))))))))))))))))))) (by kernel_rfl) runR382
theorem isR383 : PureC Tryz.prog (Go.Ax.frozen W) (eR383).1 (eR383).2.1 (eR383).2.2 := pure_of_run (pok h (T := [eR382]) (.cons (isR382 h) (.nil))) (by kernel_rfl) runR383
theorem isR384 : PureC Tryz.prog (Go.Ax.frozen W) (eR384).1 (eR384).2.1 (eR384).2.2 := pure_of_run (pok h (T := [eR111, eR355, eR356, eR357, eR360, eR383]) (.cons (isR111 h) (.cons (isR355 h) (.cons (isR356 h) (.cons (isR357 h) (.cons (isR360 h) (.cons (isR383 h) (.nil)))))))) (by kernel_rfl) runR384
theorem isR385 : PureC Tryz.prog (Go.Ax.frozen W) (eR385).1 (eR385).2.1 (eR385).2.2 := pure_of_run (pok h (T := [eR11, eR17, eR18, eR19, eR25, eR27, eR38, eR45, eR52, eR214, eR215, eR216, eR324, eR353, eR361]) (.cons (isR11 h) (.cons (isR17 h) (.cons (isR18 h) (.cons (isR19 h) (.cons (isR25 h) (.cons (isR27 h) (.cons (isR38 h) (.cons (isR45 h) (.cons (isR52 h) (.cons (isR214 h) (.cons (isR215 h) (.cons (isR216 h) (.cons (isR324 h) (.cons (isR353 h) (.cons (isR361 h) (.nil))))))))))))))))) (by kernel_rfl) runR385
theorem isR386 : PureC Tryz.prog (Go.Ax.frozen W) (eR386).1 (eR386).2.1 (eR386).2.2 := pure_of_run (pok h (T := []) (.nil)) (by kernel_rfl) runR386
theorem isR387 : PureC Tryz.prog (Go.Ax.frozen W) (eR387).1 (eR387).2.1 (eR387).2.2 := pure_of_run (pok h (T := [eR5]) (.cons (isR5 h) (.nil))) (by kernel_rfl) runR387
theorem isR388 : PureC Tryz.prog (Go.Ax.frozen W) (eR388).1 (eR388).2.1 (eR388).2.2 := pure_of_run (pok h (T := [eR3, eR4, eR6, eR9, eR10, eR11, eR12, eR16, eR17, eR18, eR21, eR25, eR26, eR386, eR387]) (.cons (isR3 h) (.cons (isR4 h) (.cons (isR6 h) (.cons (isR9 h) (.cons (isR10 h) (.cons (isR11 h) (.cons (isR12 h) (.cons (isR16 h) (.cons (isR17 h) (.cons (isR18 h) (.cons (isR21 h) (.cons (isR25 h) (.cons (isR26 h) (.cons (isR386 h) (.cons (isR387 h) (.nil))))))))))))))))) (by kernel_rfl) runR388
theorem isR389 : PureC Tryz.prog (Go.Ax.frozen W) (eR389).1 (eR389).2.1 (eR389).2.2 := pure_of_run (pok h (T := [eR31]) (.cons (isR31 h) (.nil))) (by kernel_rfl) runR389
theorem isR390 : PureC Tryz.prog (Go.Ax.frozen W) (eR390).1 (eR390).2.1 (eR390).2.2 := pure_of_run (pok h (T := [eR389]) (.cons (isR389 h) (.nil))) (by kernel_rfl) runR390
theorem isR391 : PureC Tryz.prog (Go.Ax.frozen W) (eR391).1 (eR391).2.1 (eR391).2.2 := pure_of_run (pok h (T := [eR390]) (.cons (isR390 h) (.nil))) (by kernel_rfl) runR391
theorem isR392 : PureC Tryz.prog (Go.Ax.frozen W) (eR392).1 (eR392).2.1 (eR392).2.2 := pure_of_run (pok h (T := [eR390]) (.cons (isR390 h) (.nil))) (by kernel_rfl) runR392
theorem isR393 : PureC Tryz.prog (Go.Ax.frozen W) (eR393).1 (eR393).2.1 (eR393).2.2 := pure_of_run (pok h (T := [eR391, eR392]) (.cons (isR391 h) (.cons (isR392 h) (.nil)))) (by kernel_rfl) runR393
theorem isR394 : PureC Tryz.prog (Go.Ax.frozen W) (eR394).1 (eR394).2.1 (eR394).2.2 := pure_of_run (pok h (T := [eR390]) (.cons (isR390 h) (.nil))) (by kernel_rfl) runR394
theorem isR395 : PureC Tryz.prog (Go.Ax.frozen W) (eR395).1 (eR395).2.1 (eR395).2.2 := pure_of_run (pok h (T := [eR389]) (.cons (isR389 h) (.nil))) (by kernel_rfl) runR395
theorem isR396 : PureC Tryz.prog (Go.Ax.frozen W) (eR396).1 (eR396).2.1 (eR396).2.2 := pure_of_run (pok h (T := [eR395]) (.cons (isR395 h) (.nil))) (by kernel_rfl) runR396
theorem isR397 : PureC Tryz.prog (Go.Ax.frozen W) (eR397).1 (eR397).2.1 (eR397).2.2 := pure_of_run (pok h (T := [eR395]) (.cons (isR395 h) (.nil))) (by kernel_rfl) runR397
theorem isR398 : PureC Tryz.prog (Go.Ax.frozen W) (eR398).1 (eR398).2.1 (eR398).2.2 := pure_of_run (pok h (T := [eR396, eR397]) (.cons (isR396 h) (.cons (isR397 h) (.nil)))) (by kernel_rfl) runR398
theorem isR399 : PureC Tryz.prog (Go.Ax.frozen W) (eR399).1 (eR399).2.1 (eR399).2.2 := pure_of_run (pok h (T := [eR395]) (.cons (isR395 h) (.nil))) (by kernel_rfl) runR399
theorem isR400 : PureC Tryz.prog (Go.Ax.frozen W) (eR400).1 (eR400).2.1 (eR400).2.2 := pure_of_run (pok h (T := []) (.nil)) (by kernel_rfl) runR400
theorem isR401 : PureC Tryz.prog (Go.Ax.frozen W) (eR401).1 (eR401).2.1 (eR401).2.2 := pure_of_run (pok h (T := [eR395]) (.cons (isR395 h) (.nil))) (by kernel_rfl) runR401
theorem isR402 : PureC Tryz.prog (Go.Ax.frozen W) (eR402).1 (eR402).2.1 (eR402).2.2 := pure_of_run (pok h (T := [eR11, eR17, eR18, eR25, eR38, eR39, eR52, eR110, eR389, eR391, eR393, eR394, eR396, eR398, eR399, eR400, eR401]) (.cons (isR11 h) (.cons (isR17 h) (.cons (isR18 h) (.cons (isR25 h) (.cons (isR38 h) (.cons (isR39 h) (.cons (isR52 h) (.cons (isR110 h) (.cons (isR389 h) (.cons (isR391 h) (.cons (isR393 h) (.cons (isR394 h) (.cons (isR396 h) (.cons (isR398 h) (.cons (isR399 h) (.cons (isR400 h) (.cons (isR401 h) (.nil))))))))))))))))))) (by kernel_rfl) runR402
theorem isR403 : PureC Tryz.prog (Go.Ax.frozen W) (eR403).1 (eR403).2.1 (eR403).2.2 := pure_of_run (pok h (T := [eR165]) (.cons (isR165 h) (.nil))) (by kernel_rfl) runR403
theorem isR404 : PureC Tryz.prog (Go.Ax.frozen W) (eR404).1 (eR404).2.1 (eR404).2.2 := pure_of_run (pok h (T := [eR402]) (.cons (isR402 h) (.nil))) (by kernel_rfl) runR404
theorem isR405 : PureC Tryz.prog (Go.Ax.frozen W) (eR405).1 (eR405).2.1 (eR405).2.2 := pure_of_run (pok h (T := [eR59, eR390, eR395, eR404]) (.cons (isR59 h) (.cons (isR390 h) (.cons (isR395 h) (.cons (isR404 h) (.nil)))))) (by kernel_rfl) runR405
theorem isR406 : PureC Tryz.prog (Go.Ax.frozen W) (eR406).1 (eR406).2.1 (eR406).2.2 := pure_of_all (pok h (T := [eR59, eR64, eR172, eR173, eR201, eR204, eR205, eR206, eR207, eR208, eR209, eR210, eR390, eR395, eR404, eR405]) (.cons (isR59 h) (.cons (isR64 h) (.cons (isR172 h) (.cons (isR173 h) (.cons (isR201 h) (.cons (isR204 h) (.cons (isR205 h) (.cons (isR206 h) (.cons (isR207 h) (.cons (isR208 h) (.cons (isR209 h) (.cons (isR210 h) (.cons (isR390 h) (.cons (isR395 h) (.cons (isR404 h) (.cons (isR405 h) (.nil)))))))))))))))))) (by kernel_rfl) runR406
theorem isR407 : PureC Tryz.prog (Go.Ax.frozen W) (eR407).1 (eR407).2.1 (eR407).2.2 := pure_of_run (pok h (T := [eR406]) (.cons (isR406 h) (.nil))) (by kernel_rfl) runR407
theorem isR408 : PureC Tryz.prog (Go.Ax.frozen W) (eR408).1 (eR408).2.1 (eR408).2.2 := pure_of_run (pok h (T := [eR402, eR403, eR407]) (.cons (isR402 h) (.cons (isR403 h) (.cons (isR407 h) (.nil))))) (by kernel_rfl) runR408
theorem isR409 : PureC Tryz.prog (Go.Ax.frozen W) (eR409).1 (eR409).2.1 (eR409).2.2 := pure_of_run (pok h (T := [eR11, eR17, eR18, eR25, eR38, eR52, eR214, eR215, eR216, eR389]) (.cons (isR11 h) (.cons (isR17 h) (.cons (isR18 h) (.cons (isR25 h) (.cons (isR38 h) (.cons (isR52 h) (.cons (isR214 h) (.cons (isR215 h) (.cons (isR216 h) (.cons (isR389 h) (.nil)))))))))))) (by kernel_rfl) runR409
theorem tabsR : AllPure Tryz.prog (Go.Ax.frozen W) [eR30, eR85, eR87, eR89, eR90, eR92, eR139, eR141, eR145, eR150, eR213, eR217, eR225, eR323, eR326, eR329, eR347, eR348, eR351, eR354, eR384, eR385, eR388, eR408, eR409] := .cons (isR30 h) (.cons (isR85 h) (.cons (isR87 h) (.cons (isR89 h) (.cons (isR90 h) (.cons (isR92 h) (.cons (isR139 h) (.cons (isR141 h) (.cons (isR145 h) (.cons (isR150 h) (.cons (isR213 h) (.cons (isR217 h) (.cons (isR225 h) (.cons (isR323 h) (.cons (isR326 h) (.cons (isR329 h) (.cons (isR347 h) (.cons (isR348 h) (.cons (isR351 h) (.cons (isR354 h) (.cons (isR384 h) (.cons (isR385 h) (.cons (isR388 h) (.cons (isR408 h) (.cons (isR409 h) (.nil)))))))))))))))))))))))))
end
abbrev tabLR : Tab := [eR30, eR85, eR87, eR89, eR90, eR92, eR139, eR141, eR145, eR150, eR213, eR217, eR225, eR323, eR326, eR329, eR347, eR348, eR351, eR354, eR384, eR385, eR388, eR408, eR409]
end Go.Proofs.YtmmjfmbpilfehaaGreatDoor
