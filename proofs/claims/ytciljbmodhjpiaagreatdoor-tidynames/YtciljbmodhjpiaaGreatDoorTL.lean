/- TidyNames: the law's own run, and that all told calls are right. -/
import Derived.Test.YtciljbmodhjpiaaGreatDoorTR0
import Derived.Test.YtciljbmodhjpiaaGreatDoorTR1
import Derived.Test.YtciljbmodhjpiaaGreatDoorTR2
import Derived.Test.YtciljbmodhjpiaaGreatDoorTR3
import Derived.Test.YtciljbmodhjpiaaGreatDoorTR4
import Derived.Test.YtciljbmodhjpiaaGreatDoorTR5
import Derived.Test.YtciljbmodhjpiaaGreatDoorTR6
import Derived.Test.YtciljbmodhjpiaaGreatDoorTR7
import Derived.Test.YtciljbmodhjpiaaGreatDoorTR8
import Derived.Test.YtciljbmodhjpiaaGreatDoorTR9
import Derived.Test.YtciljbmodhjpiaaGreatDoorTR10
import Derived.Test.YtciljbmodhjpiaaGreatDoorTR11
import Derived.Test.YtciljbmodhjpiaaGreatDoorTR12
import Derived.Test.YtciljbmodhjpiaaGreatDoorTR13
namespace Go.Proofs.YtciljbmodhjpiaaGreatDoor
open Go.Ax
theorem runT : okTrue (call Tryz.prog (cx [eT12, eT27, eT29, eT30, eT31, eT32, eT33, eT34, eT35, eT47]) 20000 3 [] h0) = true := by kernel_rfl
section
variable {W : World} (h : laidMetH Tryz.prog laidR W)
include h
theorem isT0 : PureC Tryz.prog (Go.Ax.frozen W) (eT0).1 (eT0).2.1 (eT0).2.2 := pure_of_run (pok h (T := []) (.nil)) (by kernel_rfl) runT0
theorem isT1 : PureC Tryz.prog (Go.Ax.frozen W) (eT1).1 (eT1).2.1 (eT1).2.2 := pure_of_run (pok h (T := [eT0]) (.cons (isT0 h) (.nil))) (by kernel_rfl) runT1
theorem isT2 : PureC Tryz.prog (Go.Ax.frozen W) (eT2).1 (eT2).2.1 (eT2).2.2 := pure_of_run (pok h (T := []) (.nil)) (by kernel_rfl) runT2
theorem isT3 : PureC Tryz.prog (Go.Ax.frozen W) (eT3).1 (eT3).2.1 (eT3).2.2 := pure_of_run (pok h (T := [eT2]) (.cons (isT2 h) (.nil))) (by kernel_rfl) runT3
theorem isT4 : PureC Tryz.prog (Go.Ax.frozen W) (eT4).1 (eT4).2.1 (eT4).2.2 := pure_of_run (pok h (T := [eT3]) (.cons (isT3 h) (.nil))) (by kernel_rfl) runT4
theorem isT5 : PureC Tryz.prog (Go.Ax.frozen W) (eT5).1 (eT5).2.1 (eT5).2.2 := pure_of_run (pok h (T := [eT3]) (.cons (isT3 h) (.nil))) (by kernel_rfl) runT5
theorem isT6 : PureC Tryz.prog (Go.Ax.frozen W) (eT6).1 (eT6).2.1 (eT6).2.2 := pure_of_run (pok h (T := [eT4, eT5]) (.cons (isT4 h) (.cons (isT5 h) (.nil)))) (by kernel_rfl) runT6
theorem isT7 : PureC Tryz.prog (Go.Ax.frozen W) (eT7).1 (eT7).2.1 (eT7).2.2 := pure_of_run (pok h (T := [eT3]) (.cons (isT3 h) (.nil))) (by kernel_rfl) runT7
theorem isT8 : PureC Tryz.prog (Go.Ax.frozen W) (eT8).1 (eT8).2.1 (eT8).2.2 := pure_of_run (pok h (T := [eT3, eT4, eT6, eT7]) (.cons (isT3 h) (.cons (isT4 h) (.cons (isT6 h) (.cons (isT7 h) (.nil)))))) (by kernel_rfl) runT8
theorem isT9 : PureC Tryz.prog (Go.Ax.frozen W) (eT9).1 (eT9).2.1 (eT9).2.2 := pure_of_run (pok h (T := [eT8]) (.cons (isT8 h) (.nil))) (by kernel_rfl) runT9
theorem isT10 : PureC Tryz.prog (Go.Ax.frozen W) (eT10).1 (eT10).2.1 (eT10).2.2 := pure_of_run (pok h (T := [eT2]) (.cons (isT2 h) (.nil))) (by kernel_rfl) runT10
theorem isT11 : PureC Tryz.prog (Go.Ax.frozen W) (eT11).1 (eT11).2.1 (eT11).2.2 := pure_of_run (pok h (T := [eT10]) (.cons (isT10 h) (.nil))) (by kernel_rfl) runT11
theorem isT12 : PureC Tryz.prog (Go.Ax.frozen W) (eT12).1 (eT12).2.1 (eT12).2.2 := pure_of_run (pok h (T := [eT1, eT9, eT11]) (.cons (isT1 h) (.cons (isT9 h) (.cons (isT11 h) (.nil))))) (by kernel_rfl) runT12
theorem isT13 : PureC Tryz.prog (Go.Ax.frozen W) (eT13).1 (eT13).2.1 (eT13).2.2 := pure_of_run (pok h (T := []) (.nil)) (by kernel_rfl) runT13
theorem isT14 : PureC Tryz.prog (Go.Ax.frozen W) (eT14).1 (eT14).2.1 (eT14).2.2 := pure_of_run (pok h (T := [eT13]) (.cons (isT13 h) (.nil))) (by kernel_rfl) runT14
theorem isT15 : PureC Tryz.prog (Go.Ax.frozen W) (eT15).1 (eT15).2.1 (eT15).2.2 := pure_of_run (pok h (T := [eT2]) (.cons (isT2 h) (.nil))) (by kernel_rfl) runT15
theorem isT16 : PureC Tryz.prog (Go.Ax.frozen W) (eT16).1 (eT16).2.1 (eT16).2.2 := pure_of_run (pok h (T := [eT15]) (.cons (isT15 h) (.nil))) (by kernel_rfl) runT16
theorem isT17 : PureC Tryz.prog (Go.Ax.frozen W) (eT17).1 (eT17).2.1 (eT17).2.2 := pure_of_run (pok h (T := [eT15]) (.cons (isT15 h) (.nil))) (by kernel_rfl) runT17
theorem isT18 : PureC Tryz.prog (Go.Ax.frozen W) (eT18).1 (eT18).2.1 (eT18).2.2 := pure_of_run (pok h (T := [eT16, eT17]) (.cons (isT16 h) (.cons (isT17 h) (.nil)))) (by kernel_rfl) runT18
theorem isT19 : PureC Tryz.prog (Go.Ax.frozen W) (eT19).1 (eT19).2.1 (eT19).2.2 := pure_of_run (pok h (T := [eT15]) (.cons (isT15 h) (.nil))) (by kernel_rfl) runT19
theorem isT20 : PureC Tryz.prog (Go.Ax.frozen W) (eT20).1 (eT20).2.1 (eT20).2.2 := pure_of_run (pok h (T := [eT15]) (.cons (isT15 h) (.nil))) (by kernel_rfl) runT20
theorem isT21 : PureC Tryz.prog (Go.Ax.frozen W) (eT21).1 (eT21).2.1 (eT21).2.2 := pure_of_run (pok h (T := [eT15]) (.cons (isT15 h) (.nil))) (by kernel_rfl) runT21
theorem isT22 : PureC Tryz.prog (Go.Ax.frozen W) (eT22).1 (eT22).2.1 (eT22).2.2 := pure_of_run (pok h (T := [eT15]) (.cons (isT15 h) (.nil))) (by kernel_rfl) runT22
theorem isT23 : PureC Tryz.prog (Go.Ax.frozen W) (eT23).1 (eT23).2.1 (eT23).2.2 := pure_of_run (pok h (T := [eT15, eT16, eT18, eT19, eT20, eT21, eT22]) (.cons (isT15 h) (.cons (isT16 h) (.cons (isT18 h) (.cons (isT19 h) (.cons (isT20 h) (.cons (isT21 h) (.cons (isT22 h) (.nil))))))))) (by kernel_rfl) runT23
theorem isT24 : PureC Tryz.prog (Go.Ax.frozen W) (eT24).1 (eT24).2.1 (eT24).2.2 := pure_of_run (pok h (T := [eT23]) (.cons (isT23 h) (.nil))) (by kernel_rfl) runT24
theorem isT25 : PureC Tryz.prog (Go.Ax.frozen W) (eT25).1 (eT25).2.1 (eT25).2.2 := pure_of_run (pok h (T := [eT2]) (.cons (isT2 h) (.nil))) (by kernel_rfl) runT25
theorem isT26 : PureC Tryz.prog (Go.Ax.frozen W) (eT26).1 (eT26).2.1 (eT26).2.2 := pure_of_run (pok h (T := [eT25]) (.cons (isT25 h) (.nil))) (by kernel_rfl) runT26
theorem isT27 : PureC Tryz.prog (Go.Ax.frozen W) (eT27).1 (eT27).2.1 (eT27).2.2 := pure_of_run (pok h (T := [eT14, eT24, eT26]) (.cons (isT14 h) (.cons (isT24 h) (.cons (isT26 h) (.nil))))) (by kernel_rfl) runT27
theorem isT28 : PureC Tryz.prog (Go.Ax.frozen W) (eT28).1 (eT28).2.1 (eT28).2.2 := pure_of_run (pok h (T := []) (.nil)) (by kernel_rfl) runT28
theorem isT29 : PureC Tryz.prog (Go.Ax.frozen W) (eT29).1 (eT29).2.1 (eT29).2.2 := pure_of_run (pok h (T := [eT28]) (.cons (isT28 h) (.nil))) (by kernel_rfl) runT29
theorem isT30 : PureC Tryz.prog (Go.Ax.frozen W) (eT30).1 (eT30).2.1 (eT30).2.2 := pure_of_run (pok h (T := [eT2]) (.cons (isT2 h) (.nil))) (by kernel_rfl) runT30
theorem isT31 : PureC Tryz.prog (Go.Ax.frozen W) (eT31).1 (eT31).2.1 (eT31).2.2 := pure_of_run (pok h (T := [eT30]) (.cons (isT30 h) (.nil))) (by kernel_rfl) runT31
theorem isT32 : PureC Tryz.prog (Go.Ax.frozen W) (eT32).1 (eT32).2.1 (eT32).2.2 := pure_of_run (pok h (T := [eT30]) (.cons (isT30 h) (.nil))) (by kernel_rfl) runT32
theorem isT33 : PureC Tryz.prog (Go.Ax.frozen W) (eT33).1 (eT33).2.1 (eT33).2.2 := pure_of_run (pok h (T := [eT30]) (.cons (isT30 h) (.nil))) (by kernel_rfl) runT33
theorem isT34 : PureC Tryz.prog (Go.Ax.frozen W) (eT34).1 (eT34).2.1 (eT34).2.2 := pure_of_run (pok h (T := [eT30]) (.cons (isT30 h) (.nil))) (by kernel_rfl) runT34
theorem isT35 : PureC Tryz.prog (Go.Ax.frozen W) (eT35).1 (eT35).2.1 (eT35).2.2 := pure_of_run (pok h (T := [eT30]) (.cons (isT30 h) (.nil))) (by kernel_rfl) runT35
theorem isT36 : PureC Tryz.prog (Go.Ax.frozen W) (eT36).1 (eT36).2.1 (eT36).2.2 := pure_of_run (pok h (T := []) (.nil)) (by kernel_rfl) runT36
theorem isT37 : PureC Tryz.prog (Go.Ax.frozen W) (eT37).1 (eT37).2.1 (eT37).2.2 := pure_of_run (pok h (T := [eT36]) (.cons (isT36 h) (.nil))) (by kernel_rfl) runT37
theorem isT38 : PureC Tryz.prog (Go.Ax.frozen W) (eT38).1 (eT38).2.1 (eT38).2.2 := pure_of_run (pok h (T := [eT2]) (.cons (isT2 h) (.nil))) (by kernel_rfl) runT38
theorem isT39 : PureC Tryz.prog (Go.Ax.frozen W) (eT39).1 (eT39).2.1 (eT39).2.2 := pure_of_run (pok h (T := [eT38]) (.cons (isT38 h) (.nil))) (by kernel_rfl) runT39
theorem isT40 : PureC Tryz.prog (Go.Ax.frozen W) (eT40).1 (eT40).2.1 (eT40).2.2 := pure_of_run (pok h (T := [eT38]) (.cons (isT38 h) (.nil))) (by kernel_rfl) runT40
theorem isT41 : PureC Tryz.prog (Go.Ax.frozen W) (eT41).1 (eT41).2.1 (eT41).2.2 := pure_of_run (pok h (T := [eT39, eT40]) (.cons (isT39 h) (.cons (isT40 h) (.nil)))) (by kernel_rfl) runT41
theorem isT42 : PureC Tryz.prog (Go.Ax.frozen W) (eT42).1 (eT42).2.1 (eT42).2.2 := pure_of_run (pok h (T := [eT38]) (.cons (isT38 h) (.nil))) (by kernel_rfl) runT42
theorem isT43 : PureC Tryz.prog (Go.Ax.frozen W) (eT43).1 (eT43).2.1 (eT43).2.2 := pure_of_run (pok h (T := [eT38, eT39, eT41, eT42]) (.cons (isT38 h) (.cons (isT39 h) (.cons (isT41 h) (.cons (isT42 h) (.nil)))))) (by kernel_rfl) runT43
theorem isT44 : PureC Tryz.prog (Go.Ax.frozen W) (eT44).1 (eT44).2.1 (eT44).2.2 := pure_of_run (pok h (T := [eT43]) (.cons (isT43 h) (.nil))) (by kernel_rfl) runT44
theorem isT45 : PureC Tryz.prog (Go.Ax.frozen W) (eT45).1 (eT45).2.1 (eT45).2.2 := pure_of_run (pok h (T := [eT2]) (.cons (isT2 h) (.nil))) (by kernel_rfl) runT45
theorem isT46 : PureC Tryz.prog (Go.Ax.frozen W) (eT46).1 (eT46).2.1 (eT46).2.2 := pure_of_run (pok h (T := [eT45]) (.cons (isT45 h) (.nil))) (by kernel_rfl) runT46
theorem isT47 : PureC Tryz.prog (Go.Ax.frozen W) (eT47).1 (eT47).2.1 (eT47).2.2 := pure_of_run (pok h (T := [eT37, eT44, eT46]) (.cons (isT37 h) (.cons (isT44 h) (.cons (isT46 h) (.nil))))) (by kernel_rfl) runT47
theorem tabsT : AllPure Tryz.prog (Go.Ax.frozen W) [eT12, eT27, eT29, eT30, eT31, eT32, eT33, eT34, eT35, eT47] := .cons (isT12 h) (.cons (isT27 h) (.cons (isT29 h) (.cons (isT30 h) (.cons (isT31 h) (.cons (isT32 h) (.cons (isT33 h) (.cons (isT34 h) (.cons (isT35 h) (.cons (isT47 h) (.nil))))))))))
end
abbrev tabLT : Tab := [eT12, eT27, eT29, eT30, eT31, eT32, eT33, eT34, eT35, eT47]
end Go.Proofs.YtciljbmodhjpiaaGreatDoor
