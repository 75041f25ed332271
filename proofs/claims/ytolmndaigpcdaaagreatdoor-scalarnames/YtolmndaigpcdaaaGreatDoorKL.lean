/- ScalarNames: the law's own run, and that all told calls are right. -/
import Derived.Test.YtolmndaigpcdaaaGreatDoorKR0
import Derived.Test.YtolmndaigpcdaaaGreatDoorKR1
import Derived.Test.YtolmndaigpcdaaaGreatDoorKR2
import Derived.Test.YtolmndaigpcdaaaGreatDoorKR3
import Derived.Test.YtolmndaigpcdaaaGreatDoorKR4
import Derived.Test.YtolmndaigpcdaaaGreatDoorKR5
import Derived.Test.YtolmndaigpcdaaaGreatDoorKR6
import Derived.Test.YtolmndaigpcdaaaGreatDoorKR7
import Derived.Test.YtolmndaigpcdaaaGreatDoorKR8
import Derived.Test.YtolmndaigpcdaaaGreatDoorKR9
import Derived.Test.YtolmndaigpcdaaaGreatDoorKR10
import Derived.Test.YtolmndaigpcdaaaGreatDoorKR11
import Derived.Test.YtolmndaigpcdaaaGreatDoorKR12
import Derived.Test.YtolmndaigpcdaaaGreatDoorKR13
import Derived.Test.YtolmndaigpcdaaaGreatDoorKR14
import Derived.Test.YtolmndaigpcdaaaGreatDoorKR15
import Derived.Test.YtolmndaigpcdaaaGreatDoorKR16
import Derived.Test.YtolmndaigpcdaaaGreatDoorKR17
import Derived.Test.YtolmndaigpcdaaaGreatDoorKR18
import Derived.Test.YtolmndaigpcdaaaGreatDoorKR19
import Derived.Test.YtolmndaigpcdaaaGreatDoorKR20
import Derived.Test.YtolmndaigpcdaaaGreatDoorKR21
import Derived.Test.YtolmndaigpcdaaaGreatDoorKR22
import Derived.Test.YtolmndaigpcdaaaGreatDoorKR23
import Derived.Test.YtolmndaigpcdaaaGreatDoorKR24
import Derived.Test.YtolmndaigpcdaaaGreatDoorKR25
import Derived.Test.YtolmndaigpcdaaaGreatDoorKR26
import Derived.Test.YtolmndaigpcdaaaGreatDoorKR27
import Derived.Test.YtolmndaigpcdaaaGreatDoorKR28
namespace Go.Proofs.YtolmndaigpcdaaaGreatDoor
open Go.Ax
theorem runK : okTrue (call Tryz.prog (cx [eK58, eK60, eK73, eK88, eK124, eK182, eK223, eK224, eK225, eK226, eK232, eK283]) 20000 3 [] h0) = true := by kernel_rfl
section
variable {W : World} (h : laidMetH Tryz.prog laidR W)
include h
theorem isK0 : PureC Tryz.prog (Go.Ax.frozen W) (eK0).1 (eK0).2.1 (eK0).2.2 := pure_of_run (pok h (T := []) (.nil)) (by kernel_rfl) runK0
theorem isK1 : PureC Tryz.prog (Go.Ax.frozen W) (eK1).1 (eK1).2.1 (eK1).2.2 := pure_of_run (pok h (T := []) (.nil)) (by kernel_rfl) runK1
theorem isK2 : PureC Tryz.prog (Go.Ax.frozen W) (eK2).1 (eK2).2.1 (eK2).2.2 := pure_of_run (pok h (T := [eK1]) (.cons (isK1 h) (.nil))) (by kernel_rfl) runK2
theorem isK3 : PureC Tryz.prog (Go.Ax.frozen W) (eK3).1 (eK3).2.1 (eK3).2.2 := pure_of_run (pok h (T := [eK2]) (.cons (isK2 h) (.nil))) (by kernel_rfl) runK3
theorem isK4 : PureC Tryz.prog (Go.Ax.frozen W) (eK4).1 (eK4).2.1 (eK4).2.2 := pure_of_run (pok h (T := []) (.nil)) (by kernel_rfl) runK4
theorem isK5 : PureC Tryz.prog (Go.Ax.frozen W) (eK5).1 (eK5).2.1 (eK5).2.2 := pure_of_run (pok h (T := [eK4]) (.cons (isK4 h) (.nil))) (by kernel_rfl) runK5
theorem isK6 : PureC Tryz.prog (Go.Ax.frozen W) (eK6).1 (eK6).2.1 (eK6).2.2 := pure_of_run (pok h (T := [eK5]) (.cons (isK5 h) (.nil))) (by kernel_rfl) runK6
theorem isK7 : PureC Tryz.prog (Go.Ax.frozen W) (eK7).1 (eK7).2.1 (eK7).2.2 := pure_of_run (pok h (T := []) (.nil)) (by kernel_rfl) runK7
theorem isK8 : PureC Tryz.prog (Go.Ax.frozen W) (eK8).1 (eK8).2.1 (eK8).2.2 := pure_of_run (pok h (T := [eK7]) (.cons (isK7 h) (.nil))) (by kernel_rfl) runK8
theorem isK9 : PureC Tryz.prog (Go.Ax.frozen W) (eK9).1 (eK9).2.1 (eK9).2.2 := pure_of_run (pok h (T := [eK8]) (.cons (isK8 h) (.nil))) (by kernel_rfl) runK9
theorem isK10 : PureC Tryz.prog (Go.Ax.frozen W) (eK10).1 (eK10).2.1 (eK10).2.2 := pure_of_run (pok h (T := []) (.nil)) (by kernel_rfl) runK10
theorem isK11 : PureC Tryz.prog (Go.Ax.frozen W) (eK11).1 (eK11).2.1 (eK11).2.2 := pure_of_run (pok h (T := [eK10]) (.cons (isK10 h) (.nil))) (by kernel_rfl) runK11
theorem isK12 : PureC Tryz.prog (Go.Ax.frozen W) (eK12).1 (eK12).2.1 (eK12).2.2 := pure_of_run (pok h (T := [eK11]) (.cons (isK11 h) (.nil))) (by kernel_rfl) runK12
theorem isK13 : PureC Tryz.prog (Go.Ax.frozen W) (eK13).1 (eK13).2.1 (eK13).2.2 := pure_of_run (pok h (T := [eK2]) (.cons (isK2 h) (.nil))) (by kernel_rfl) runK13
theorem isK14 : PureC Tryz.prog (Go.Ax.frozen W) (eK14).1 (eK14).2.1 (eK14).2.2 := pure_of_run (pok h (T := []) (.nil)) (by kernel_rfl) runK14
theorem isK15 : PureC Tryz.prog (Go.Ax.frozen W) (eK15).1 (eK15).2.1 (eK15).2.2 := pure_of_run (pok h (T := [eK5]) (.cons (isK5 h) (.nil))) (by kernel_rfl) runK15
theorem isK16 : PureC Tryz.prog (Go.Ax.frozen W) (eK16).1 (eK16).2.1 (eK16).2.2 := pure_of_run (pok h (T := []) (.nil)) (by kernel_rfl) runK16
theorem isK17 : PureC Tryz.prog (Go.Ax.frozen W) (eK17).1 (eK17).2.1 (eK17).2.2 := pure_of_run (pok h (T := []) (.nil)) (by kernel_rfl) runK17
theorem isK18 : PureC Tryz.prog (Go.Ax.frozen W) (eK18).1 (eK18).2.1 (eK18).2.2 := pure_of_run (pok h (T := []) (.nil)) (by kernel_rfl) runK18
theorem isK19 : PureC Tryz.prog (Go.Ax.frozen W) (eK19).1 (eK19).2.1 (eK19).2.2 := pure_of_run (pok h (T := []) (.nil)) (by kernel_rfl) runK19
theorem isK20 : PureC Tryz.prog (Go.Ax.frozen W) (eK20).1 (eK20).2.1 (eK20).2.2 := pure_of_run (pok h (T := [eK19]) (.cons (isK19 h) (.nil))) (by kernel_rfl) runK20
theorem isK21 : PureC Tryz.prog (Go.Ax.frozen W) (eK21).1 (eK21).2.1 (eK21).2.2 := pure_of_run (pok h (T := [eK20]) (.cons (isK20 h) (.nil))) (by kernel_rfl) runK21
theorem isK22 : PureC Tryz.prog (Go.Ax.frozen W) (eK22).1 (eK22).2.1 (eK22).2.2 := pure_of_run (pok h (T := []) (.nil)) (by kernel_rfl) runK22
theorem isK23 : PureC Tryz.prog (Go.Ax.frozen W) (eK23).1 (eK23).2.1 (eK23).2.2 := pure_of_run (pok h (T := [eK0, eK3, eK6, eK9, eK12, eK13, eK14, eK15, eK16, eK17, eK18, eK21, eK22]) (.cons (isK0 h) (.cons (isK3 h) (.cons (isK6 h) (.cons (isK9 h) (.cons (isK12 h) (.cons (isK13 h) (.cons (isK14 h) (.cons (isK15 h) (.cons (isK16 h) (.cons (isK17 h) (.cons (isK18 h) (.cons (isK21 h) (.cons (isK22 h) (.nil))))))))))))))) (by kernel_rfl) runK23
theorem isK24 : PureC Tryz.prog (Go.Ax.frozen W) (eK24).1 (eK24).2.1 (eK24).2.2 := pure_of_run (pok h (T := []) (.nil)) (by kernel_rfl) runK24
theorem isK25 : PureC Tryz.prog (Go.Ax.frozen W) (eK25).1 (eK25).2.1 (eK25).2.2 := pure_of_run (pok h (T := []) (.nil)) (by kernel_rfl) runK25
theorem isK26 : PureC Tryz.prog (Go.Ax.frozen W) (eK26).1 (eK26).2.1 (eK26).2.2 := pure_of_run (pok h (T := [eK25]) (.cons (isK25 h) (.nil))) (by kernel_rfl) runK26
theorem isK27 : PureC Tryz.prog (Go.Ax.frozen W) (eK27).1 (eK27).2.1 (eK27).2.2 := pure_of_run (pok h (T := [eK26]) (.cons (isK26 h) (.nil))) (by kernel_rfl) runK27
theorem isK28 : PureC Tryz.prog (Go.Ax.frozen W) (eK28).1 (eK28).2.1 (eK28).2.2 := pure_of_run (pok h (T := [eK26]) (.cons (isK26 h) (.nil))) (by kernel_rfl) runK28
theorem isK29 : PureC Tryz.prog (Go.Ax.frozen W) (eK29).1 (eK29).2.1 (eK29).2.2 := pure_of_run (pok h (T := [eK27, eK28]) (.cons (isK27 h) (.cons (isK28 h) (.nil)))) (by kernel_rfl) runK29
theorem isK30 : PureC Tryz.prog (Go.Ax.frozen W) (eK30).1 (eK30).2.1 (eK30).2.2 := pure_of_run (pok h (T := [eK26]) (.cons (isK26 h) (.nil))) (by kernel_rfl) runK30
theorem isK31 : PureC Tryz.prog (Go.Ax.frozen W) (eK31).1 (eK31).2.1 (eK31).2.2 := pure_of_run (pok h (T := []) (.nil)) (by kernel_rfl) runK31
theorem isK32 : PureC Tryz.prog (Go.Ax.frozen W) (eK32).1 (eK32).2.1 (eK32).2.2 := pure_of_run (pok h (T := []) (.nil)) (by kernel_rfl) runK32
theorem isK33 : PureC Tryz.prog (Go.Ax.frozen W) (eK33).1 (eK33).2.1 (eK33).2.2 := pure_of_run (pok h (T := []) (.nil)) (by kernel_rfl) runK33
theorem isK34 : PureC Tryz.prog (Go.Ax.frozen W) (eK34).1 (eK34).2.1 (eK34).2.2 := pure_of_run (pok h (T := [eK22, eK26, eK27, eK29, eK30, eK31, eK32, eK33]) (.cons (isK22 h) (.cons (isK26 h) (.cons (isK27 h) (.cons (isK29 h) (.cons (isK30 h) (.cons (isK31 h) (.cons (isK32 h) (.cons (isK33 h) (.nil)))))))))) (by kernel_rfl) runK34
theorem isK35 : PureC Tryz.prog (Go.Ax.frozen W) (eK35).1 (eK35).2.1 (eK35).2.2 := pure_of_run (pok h (T := [eK34]) (.cons (isK34 h) (.nil))) (by kernel_rfl) runK35
theorem isK36 : PureC Tryz.prog (Go.Ax.frozen W) (eK36).1 (eK36).2.1 (eK36).2.2 := pure_of_run (pok h (T := [eK22, eK24, eK31, eK32, eK33, eK35]) (.cons (isK22 h) (.cons (isK24 h) (.cons (isK31 h) (.cons (isK32 h) (.cons (isK33 h) (.cons (isK35 h) (.nil)))))))) (by kernel_rfl) runK36
theorem isK37 : PureC Tryz.prog (Go.Ax.frozen W) (eK37).1 (eK37).2.1 (eK37).2.2 := pure_of_run (pok h (T := []) (.nil)) (by kernel_rfl) runK37
theorem isK38 : PureC Tryz.prog (Go.Ax.frozen W) (eK38).1 (eK38).2.1 (eK38).2.2 := pure_of_run (pok h (T := []) (.nil)) (by kernel_rfl) runK38
theorem isK39 : PureC Tryz.prog (Go.Ax.frozen W) (eK39).1 (eK39).2.1 (eK39).2.2 := pure_of_run (pok h (T := []) (.nil)) (by kernel_rfl) runK39
theorem isK40 : PureC Tryz.prog (Go.Ax.frozen W) (eK40).1 (eK40).2.1 (eK40).2.2 := pure_of_run (pok h (T := []) (.nil)) (by kernel_rfl) runK40
theorem isK41 : PureC Tryz.prog (Go.Ax.frozen W) (eK41).1 (eK41).2.1 (eK41).2.2 := pure_of_run (pok h (T := []) (.nil)) (by kernel_rfl) runK41
theorem isK42 : PureC Tryz.prog (Go.Ax.frozen W) (eK42).1 (eK42).2.1 (eK42).2.2 := pure_of_run (pok h (T := []) (.nil)) (by kernel_rfl) runK42
theorem isK43 : PureC Tryz.prog (Go.Ax.frozen W) (eK43).1 (eK43).2.1 (eK43).2.2 := pure_of_run (pok h (T := []) (.nil)) (by kernel_rfl) runK43
theorem isK44 : PureC Tryz.prog (Go.Ax.frozen W) (eK44).1 (eK44).2.1 (eK44).2.2 := pure_of_run (pok h (T := []) (.nil)) (by kernel_rfl) runK44
theorem isK45 : PureC Tryz.prog (Go.Ax.frozen W) (eK45).1 (eK45).2.1 (eK45).2.2 := pure_of_run (pok h (T := []) (.nil)) (by kernel_rfl) runK45
theorem isK46 : PureC Tryz.prog (Go.Ax.frozen W) (eK46).1 (eK46).2.1 (eK46).2.2 := pure_of_run (pok h (T := []) (.nil)) (by kernel_rfl) runK46
theorem isK47 : PureC Tryz.prog (Go.Ax.frozen W) (eK47).1 (eK47).2.1 (eK47).2.2 := pure_of_run (pok h (T := []) (.nil)) (by kernel_rfl) runK47
theorem isK48 : PureC Tryz.prog (Go.Ax.frozen W) (eK48).1 (eK48).2.1 (eK48).2.2 := pure_of_run (pok h (T := []) (.nil)) (by kernel_rfl) runK48
theorem isK49 : PureC Tryz.prog (Go.Ax.frozen W) (eK49).1 (eK49).2.1 (eK49).2.2 := pure_of_run (pok h (T := []) (.nil)) (by kernel_rfl) runK49
theorem isK50 : PureC Tryz.prog (Go.Ax.frozen W) (eK50).1 (eK50).2.1 (eK50).2.2 := pure_of_run (pok h (T := []) (.nil)) (by kernel_rfl) runK50
theorem isK51 : PureC Tryz.prog (Go.Ax.frozen W) (eK51).1 (eK51).2.1 (eK51).2.2 := pure_of_run (pok h (T := []) (.nil)) (by kernel_rfl) runK51
theorem isK52 : PureC Tryz.prog (Go.Ax.frozen W) (eK52).1 (eK52).2.1 (eK52).2.2 := pure_of_run (pok h (T := []) (.nil)) (by kernel_rfl) runK52
theorem isK53 : PureC Tryz.prog (Go.Ax.frozen W) (eK53).1 (eK53).2.1 (eK53).2.2 := pure_of_run (pok h (T := []) (.nil)) (by kernel_rfl) runK53
theorem isK54 : PureC Tryz.prog (Go.Ax.frozen W) (eK54).1 (eK54).2.1 (eK54).2.2 := pure_of_run (pok h (T := []) (.nil)) (by kernel_rfl) runK54
theorem isK55 : PureC Tryz.prog (Go.Ax.frozen W) (eK55).1 (eK55).2.1 (eK55).2.2 := pure_of_run (pok h (T := []) (.nil)) (by kernel_rfl) runK55
theorem isK56 : PureC Tryz.prog (Go.Ax.frozen W) (eK56).1 (eK56).2.1 (eK56).2.2 := pure_of_run (pok h (T := []) (.nil)) (by kernel_rfl) runK56
theorem isK57 : PureC Tryz.prog (Go.Ax.frozen W) (eK57).1 (eK57).2.1 (eK57).2.2 := pure_of_run (pok h (T := [eK22, eK26, eK31, eK32, eK33, eK37, eK38, eK39, eK40, eK41, eK42, eK43, eK44, eK45, eK46, eK47, eK48, eK49, eK50, eK51, eK52, eK53, eK54, eK55, eK56]) (.cons (isK22 h) (.cons (isK26 h) (.cons (isK31 h) (.cons (isK32 h) (.cons (isK33 h) (.cons (isK37 h) (.cons (isK38 h) (.cons (isK39 h) (.cons (isK40 h) (.cons (isK41 h) (.cons (isK42 h) (.cons (isK43 h) (.cons (isK44 h) (.cons (isK45 h) (.cons (isK46 h) (.cons (isK47 h) (.cons (isK48 h) (.cons (isK49 h) (.cons (isK50 h) (.cons (isK51 h) (.cons (isK52 h) (.cons (isK53 h) (.cons (isK54 h) (.cons (isK55 h) (.cons (isK56 h) (.nil))))))))))))))))))))))))))) (by kernel_rfl) runK57
theorem isK58 : PureC Tryz.prog (Go.Ax.frozen W) (eK58).1 (eK58).2.1 (eK58).2.2 := pure_of_run (pok h (T := [eK23, eK36, eK57]) (.cons (isK23 h) (.cons (isK36 h) (.cons (isK57 h) (.nil))))) (by kernel_rfl) runK58
theorem isK59 : PureC Tryz.prog (Go.Ax.frozen W) (eK59).1 (eK59).2.1 (eK59).2.2 := pure_of_run (pok h (T := []) (.nil)) (by kernel_rfl) runK59
theorem isK60 : PureC Tryz.prog (Go.Ax.frozen W) (eK60).1 (eK60).2.1 (eK60).2.2 := pure_of_run (pok h (T := [eK3, eK6, eK9, eK12, eK13, eK14, eK15, eK18, eK22, eK59]) (.cons (isK3 h) (.cons (isK6 h) (.cons (isK9 h) (.cons (isK12 h) (.cons (isK13 h) (.cons (isK14 h) (.cons (isK15 h) (.cons (isK18 h) (.cons (isK22 h) (.cons (isK59 h) (.nil)))))))))))) (by kernel_rfl) runK60
theorem isK61 : PureC Tryz.prog (Go.Ax.frozen W) (eK61).1 (eK61).2.1 (eK61).2.2 := pure_of_run (pok h (T := []) (.nil)) (by kernel_rfl) runK61
theorem isK62 : PureC Tryz.prog (Go.Ax.frozen W) (eK62).1 (eK62).2.1 (eK62).2.2 := pure_of_run (pok h (T := [eK25]) (.cons (isK25 h) (.nil))) (by kernel_rfl) runK62
theorem isK63 : PureC Tryz.prog (Go.Ax.frozen W) (eK63).1 (eK63).2.1 (eK63).2.2 := pure_of_run (pok h (T := [eK62]) (.cons (isK62 h) (.nil))) (by kernel_rfl) runK63
theorem isK64 : PureC Tryz.prog (Go.Ax.frozen W) (eK64).1 (eK64).2.1 (eK64).2.2 := pure_of_run (pok h (T := [eK62]) (.cons (isK62 h) (.nil))) (by kernel_rfl) runK64
theorem isK65 : PureC Tryz.prog (Go.Ax.frozen W) (eK65).1 (eK65).2.1 (eK65).2.2 := pure_of_run (pok h (T := [eK63, eK64]) (.cons (isK63 h) (.cons (isK64 h) (.nil)))) (by kernel_rfl) runK65
theorem isK66 : PureC Tryz.prog (Go.Ax.frozen W) (eK66).1 (eK66).2.1 (eK66).2.2 := pure_of_run (pok h (T := [eK62]) (.cons (isK62 h) (.nil))) (by kernel_rfl) runK66
theorem isK67 : PureC Tryz.prog (Go.Ax.frozen W) (eK67).1 (eK67).2.1 (eK67).2.2 := pure_of_run (pok h (T := [eK22, eK31, eK33, eK62, eK63, eK65, eK66]) (.cons (isK22 h) (.cons (isK31 h) (.cons (isK33 h) (.cons (isK62 h) (.cons (isK63 h) (.cons (isK65 h) (.cons (isK66 h) (.nil))))))))) (by kernel_rfl) runK67
theorem isK68 : PureC Tryz.prog (Go.Ax.frozen W) (eK68).1 (eK68).2.1 (eK68).2.2 := pure_of_run (pok h (T := [eK67]) (.cons (isK67 h) (.nil))) (by kernel_rfl) runK68
theorem isK69 : PureC Tryz.prog (Go.Ax.frozen W) (eK69).1 (eK69).2.1 (eK69).2.2 := pure_of_run (pok h (T := [eK62]) (.cons (isK62 h) (.nil))) (by kernel_rfl) runK69
theorem isK70 : PureC Tryz.prog (Go.Ax.frozen W) (eK70).1 (eK70).2.1 (eK70).2.2 := pure_of_run (pok h (T := [eK63, eK64, eK69]) (.cons (isK63 h) (.cons (isK64 h) (.cons (isK69 h) (.nil))))) (by kernel_rfl) runK70
theorem isK71 : PureC Tryz.prog (Go.Ax.frozen W) (eK71).1 (eK71).2.1 (eK71).2.2 := pure_of_run (pok h (T := [eK22, eK31, eK33, eK61, eK68, eK70]) (.cons (isK22 h) (.cons (isK31 h) (.cons (isK33 h) (.cons (isK61 h) (.cons (isK68 h) (.cons (isK70 h) (.nil)))))))) (by kernel_rfl) runK71
theorem isK72 : PureC Tryz.prog (Go.Ax.frozen W) (eK72).1 (eK72).2.1 (eK72).2.2 := pure_of_run (pok h (T := [eK22, eK31, eK33, eK37, eK38, eK39, eK40, eK41, eK42, eK43, eK44, eK45, eK46, eK47, eK48, eK49, eK50, eK51, eK53, eK55, eK56, eK62]) (.cons (isK22 h) (.cons (isK31 h) (.cons (isK33 h) (.cons (isK37 h) (.cons (isK38 h) (.cons (isK39 h) (.cons (isK40 h) (.cons (isK41 h) (.cons (isK42 h) (.cons (isK43 h) (.cons (isK44 h) (.cons (isK45 h) (.cons (isK46 h) (.cons (isK47 h) (.cons (isK48 h) (.cons (isK49 h) (.cons (isK50 h) (.cons (isK51 h) (.cons (isK53 h) (.cons (isK55 h) (.cons (isK56 h) (.cons (isK62 h) (.nil)))))))))))))))))))))))) (by kernel_rfl) runK72
theorem isK73 : PureC Tryz.prog (Go.Ax.frozen W) (eK73).1 (eK73).2.1 (eK73).2.2 := pure_of_run (pok h (T := [eK60, eK71, eK72]) (.cons (isK60 h) (.cons (isK71 h) (.cons (isK72 h) (.nil))))) (by kernel_rfl) runK73
theorem isK74 : PureC Tryz.prog (Go.Ax.frozen W) (eK74).1 (eK74).2.1 (eK74).2.2 := pure_of_run (pok h (T := []) (.nil)) (by kernel_rfl) runK74
theorem isK75 : PureC Tryz.prog (Go.Ax.frozen W) (eK75).1 (eK75).2.1 (eK75).2.2 := pure_of_run (pok h (T := []) (.nil)) (by kernel_rfl) runK75
theorem isK76 : PureC Tryz.prog (Go.Ax.frozen W) (eK76).1 (eK76).2.1 (eK76).2.2 := pure_of_run (pok h (T := [eK3, eK6, eK9, eK12, eK13, eK14, eK15, eK22, eK74, eK75]) (.cons (isK3 h) (.cons (isK6 h) (.cons (isK9 h) (.cons (isK12 h) (.cons (isK13 h) (.cons (isK14 h) (.cons (isK15 h) (.cons (isK22 h) (.cons (isK74 h) (.cons (isK75 h) (.nil)))))))))))) (by kernel_rfl) runK76
theorem isK77 : PureC Tryz.prog (Go.Ax.frozen W) (eK77).1 (eK77).2.1 (eK77).2.2 := pure_of_run (pok h (T := []) (.nil)) (by kernel_rfl) runK77
theorem isK78 : PureC Tryz.prog (Go.Ax.frozen W) (eK78).1 (eK78).2.1 (eK78).2.2 := pure_of_run (pok h (T := [eK25]) (.cons (isK25 h) (.nil))) (by kernel_rfl) runK78
theorem isK79 : PureC Tryz.prog (Go.Ax.frozen W) (eK79).1 (eK79).2.1 (eK79).2.2 := pure_of_run (pok h (T := [eK78]) (.cons (isK78 h) (.nil))) (by kernel_rfl) runK79
theorem isK80 : PureC Tryz.prog (Go.Ax.frozen W) (eK80).1 (eK80).2.1 (eK80).2.2 := pure_of_run (pok h (T := [eK78]) (.cons (isK78 h) (.nil))) (by kernel_rfl) runK80
theorem isK81 : PureC Tryz.prog (Go.Ax.frozen W) (eK81).1 (eK81).2.1 (eK81).2.2 := pure_of_run (pok h (T := [eK79, eK80]) (.cons (isK79 h) (.cons (isK80 h) (.nil)))) (by kernel_rfl) runK81
theorem isK82 : PureC Tryz.prog (Go.Ax.frozen W) (eK82).1 (eK82).2.1 (eK82).2.2 := pure_of_run (pok h (T := [eK78]) (.cons (isK78 h) (.nil))) (by kernel_rfl) runK82
theorem isK83 : PureC Tryz.prog (Go.Ax.frozen W) (eK83).1 (eK83).2.1 (eK83).2.2 := pure_of_run (pok h (T := [eK22, eK31, eK75, eK78, eK79, eK81, eK82]) (.cons (isK22 h) (.cons (isK31 h) (.cons (isK75 h) (.cons (isK78 h) (.cons (isK79 h) (.cons (isK81 h) (.cons (isK82 h) (.nil))))))))) (by kernel_rfl) runK83
theorem isK84 : PureC Tryz.prog (Go.Ax.frozen W) (eK84).1 (eK84).2.1 (eK84).2.2 := pure_of_run (pok h (T := [eK83]) (.cons (isK83 h) (.nil))) (by kernel_rfl) runK84
theorem isK85 : PureC Tryz.prog (Go.Ax.frozen W) (eK85).1 (eK85).2.1 (eK85).2.2 := pure_of_run (pok h (T := [eK22, eK31, eK75, eK77, eK84]) (.cons (isK22 h) (.cons (isK31 h) (.cons (isK75 h) (.cons (isK77 h) (.cons (isK84 h) (.nil))))))) (by kernel_rfl) runK85
theorem isK86 : PureC Tryz.prog (Go.Ax.frozen W) (eK86).1 (eK86).2.1 (eK86).2.2 := pure_of_run (pok h (T := []) (.nil)) (by kernel_rfl) runK86
theorem isK87 : PureC Tryz.prog (Go.Ax.frozen W) (eK87).1 (eK87).2.1 (eK87).2.2 := pure_of_run (pok h (T := [eK22, eK31, eK37, eK38, eK39, eK40, eK41, eK42, eK43, eK44, eK45, eK46, eK47, eK48, eK49, eK50, eK51, eK55, eK56, eK75, eK78, eK86]) (.cons (isK22 h) (.cons (isK31 h) (.cons (isK37 h) (.cons (isK38 h) (.cons (isK39 h) (.cons (isK40 h) (.cons (isK41 h) (.cons (isK42 h) (.cons (isK43 h) (.cons (isK44 h) (.cons (isK45 h) (.cons (isK46 h) (.cons (isK47 h) (.cons (isK48 h) (.cons (isK49 h) (.cons (isK50 h) (.cons (isK51 h) (.cons (isK55 h) (.cons (isK56 h) (.cons (isK75 h) (.cons (isK78 h) (.cons (isK86 h) (.nil)))))))))))))))))))))))) (by kernel_rfl) runK87
theorem isK88 : PureC Tryz.prog (Go.Ax.frozen W) (eK88).1 (eK88).2.1 (eK88).2.2 := pure_of_run (pok h (T := [eK76, eK85, eK87]) (.cons (isK76 h) (.cons (isK85 h) (.cons (isK87 h) (.nil))))) (by kernel_rfl) runK88
theorem isK89 : PureC Tryz.prog (Go.Ax.frozen W) (eK89).1 (eK89).2.1 (eK89).2.2 := pure_of_run (pok h (T := []) (.nil)) (by kernel_rfl) runK89
theorem isK90 : PureC Tryz.prog (Go.Ax.frozen W) (eK90).1 (eK90).2.1 (eK90).2.2 := pure_of_run (pok h (T := [eK20]) (.cons (isK20 h) (.nil))) (by kernel_rfl) runK90
theorem isK91 : PureC Tryz.prog (Go.Ax.frozen W) (eK91).1 (eK91).2.1 (eK91).2.2 := pure_of_run (pok h (T := []) (.nil)) (by kernel_rfl) runK91
theorem isK92 : PureC Tryz.prog (Go.Ax.frozen W) (eK92).1 (eK92).2.1 (eK92).2.2 := pure_of_run (pok h (T := []) (.nil)) (by kernel_rfl) runK92
theorem isK93 : PureC Tryz.prog (Go.Ax.frozen W) (eK93).1 (eK93).2.1 (eK93).2.2 := pure_of_run (pok h (T := [eK92]) (.cons (isK92 h) (.nil))) (by kernel_rfl) runK93
theorem isK94 : PureC Tryz.prog (Go.Ax.frozen W) (eK94).1 (eK94).2.1 (eK94).2.2 := pure_of_run (pok h (T := [eK93]) (.cons (isK93 h) (.nil))) (by kernel_rfl) runK94
theorem isK95 : PureC Tryz.prog (Go.Ax.frozen W) (eK95).1 (eK95).2.1 (eK95).2.2 := pure_of_run (pok h (T := [eK3, eK6, eK9, eK12, eK13, eK14, eK15, eK18, eK21, eK22, eK89, eK90, eK91, eK94]) (.cons (isK3 h) (.cons (isK6 h) (.cons (isK9 h) (.cons (isK12 h) (.cons (isK13 h) (.cons (isK14 h) (.cons (isK15 h) (.cons (isK18 h) (.cons (isK21 h) (.cons (isK22 h) (.cons (isK89 h) (.cons (isK90 h) (.cons (isK91 h) (.cons (isK94 h) (.nil)))))))))))))))) (by kernel_rfl) runK95
theorem isK96 : PureC Tryz.prog (Go.Ax.frozen W) (eK96).1 (eK96).2.1 (eK96).2.2 := pure_of_run (pok h (T := []) (.nil)) (by kernel_rfl) runK96
theorem isK97 : PureC Tryz.prog (Go.Ax.frozen W) (eK97).1 (eK97).2.1 (eK97).2.2 := pure_of_run (pok h (T := [eK25]) (.cons (isK25 h) (.nil))) (by kernel_rfl) runK97
theorem isK98 : PureC Tryz.prog (Go.Ax.frozen W) (eK98).1 (eK98).2.1 (eK98).2.2 := pure_of_run (pok h (T := [eK97]) (.cons (isK97 h) (.nil))) (by kernel_rfl) runK98
theorem isK99 : PureC Tryz.prog (Go.Ax.frozen W) (eK99).1 (eK99).2.1 (eK99).2.2 := pure_of_run (pok h (T := [eK97]) (.cons (isK97 h) (.nil))) (by kernel_rfl) runK99
theorem isK100 : PureC Tryz.prog (Go.Ax.frozen W) (eK100).1 (eK100).2.1 (eK100).2.2 := pure_of_run (pok h (T := [eK98, eK99]) (.cons (isK98 h) (.cons (isK99 h) (.nil)))) (by kernel_rfl) runK100
theorem isK101 : PureC Tryz.prog (Go.Ax.frozen W) (eK101).1 (eK101).2.1 (eK101).2.2 := pure_of_run (pok h (T := [eK97]) (.cons (isK97 h) (.nil))) (by kernel_rfl) runK101
theorem isK102 : PureC Tryz.prog (Go.Ax.frozen W) (eK102).1 (eK102).2.1 (eK102).2.2 := pure_of_run (pok h (T := []) (.nil)) (by kernel_rfl) runK102
theorem isK103 : PureC Tryz.prog (Go.Ax.frozen W) (eK103).1 (eK103).2.1 (eK103).2.2 := pure_of_run (pok h (T := []) (.nil)) (by kernel_rfl) runK103
theorem isK104 : PureC Tryz.prog (Go.Ax.frozen W) (eK104).1 (eK104).2.1 (eK104).2.2 := pure_of_run (pok h (T := []) (.nil)) (by kernel_rfl) runK104
theorem isK105 : PureC Tryz.prog (Go.Ax.frozen W) (eK105).1 (eK105).2.1 (eK105).2.2 := pure_of_run (pok h (T := []) (.nil)) (by kernel_rfl) runK105
theorem isK106 : PureC Tryz.prog (Go.Ax.frozen W) (eK106).1 (eK106).2.1 (eK106).2.2 := pure_of_run (pok h (T := [eK33, eK97, eK98, eK100, eK101, eK102, eK103, eK104, eK105]) (.cons (isK33 h) (.cons (isK97 h) (.cons (isK98 h) (.cons (isK100 h) (.cons (isK101 h) (.cons (isK102 h) (.cons (isK103 h) (.cons (isK104 h) (.cons (isK105 h) (.nil))))))))))) (by kernel_rfl) runK106
theorem isK107 : PureC Tryz.prog (Go.Ax.frozen W) (eK107).1 (eK107).2.1 (eK107).2.2 := pure_of_run (pok h (T := [eK106]) (.cons (isK106 h) (.nil))) (by kernel_rfl) runK107
theorem isK108 : PureC Tryz.prog (Go.Ax.frozen W) (eK108).1 (eK108).2.1 (eK108).2.2 := pure_of_run (pok h (T := [eK97]) (.cons (isK97 h) (.nil))) (by kernel_rfl) runK108
theorem isK109 : PureC Tryz.prog (Go.Ax.frozen W) (eK109).1 (eK109).2.1 (eK109).2.2 := pure_of_run (pok h (T := [eK98, eK99, eK108]) (.cons (isK98 h) (.cons (isK99 h) (.cons (isK108 h) (.nil))))) (by kernel_rfl) runK109
theorem isK110 : PureC Tryz.prog (Go.Ax.frozen W) (eK110).1 (eK110).2.1 (eK110).2.2 := pure_of_run (pok h (T := [eK14, eK18, eK22, eK91, eK97]) (.cons (isK14 h) (.cons (isK18 h) (.cons (isK22 h) (.cons (isK91 h) (.cons (isK97 h) (.nil))))))) (by kernel_rfl) runK110
theorem isK111 : PureC Tryz.prog (Go.Ax.frozen W) (eK111).1 (eK111).2.1 (eK111).2.2 := pure_of_run (pok h (T := [eK25]) (.cons (isK25 h) (.nil))) (by kernel_rfl) runK111
theorem isK112 : PureC Tryz.prog (Go.Ax.frozen W) (eK112).1 (eK112).2.1 (eK112).2.2 := pure_of_run (pok h (T := []) (.nil)) (by kernel_rfl) runK112
theorem isK113 : PureC Tryz.prog (Go.Ax.frozen W) (eK113).1 (eK113).2.1 (eK113).2.2 := pure_of_run (pok h (T := [eK22, eK91, eK103, eK111, eK112]) (.cons (isK22 h) (.cons (isK91 h) (.cons (isK103 h) (.cons (isK111 h) (.cons (isK112 h) (.nil))))))) (by kernel_rfl) runK113
theorem isK114 : PureC Tryz.prog (Go.Ax.frozen W) (eK114).1 (eK114).2.1 (eK114).2.2 := pure_of_run (pok h (T := [eK25]) (.cons (isK25 h) (.nil))) (by kernel_rfl) runK114
theorem isK115 : PureC Tryz.prog (Go.Ax.frozen W) (eK115).1 (eK115).2.1 (eK115).2.2 := pure_of_run (pok h (T := [eK114]) (.cons (isK114 h) (.nil))) (by kernel_rfl) runK115
theorem isK116 : PureC Tryz.prog (Go.Ax.frozen W) (eK116).1 (eK116).2.1 (eK116).2.2 := pure_of_run (pok h (T := [eK114]) (.cons (isK114 h) (.nil))) (by kernel_rfl) runK116
theorem isK117 : PureC Tryz.prog (Go.Ax.frozen W) (eK117).1 (eK117).2.1 (eK117).2.2 := pure_of_run (pok h (T := [eK115, eK116]) (.cons (isK115 h) (.cons (isK116 h) (.nil)))) (by kernel_rfl) runK117
theorem isK118 : PureC Tryz.prog (Go.Ax.frozen W) (eK118).1 (eK118).2.1 (eK118).2.2 := pure_of_run (pok h (T := [eK114]) (.cons (isK114 h) (.nil))) (by kernel_rfl) runK118
theorem isK119 : PureC Tryz.prog (Go.Ax.frozen W) (eK119).1 (eK119).2.1 (eK119).2.2 := pure_of_run (pok h (T := [eK22, eK103, eK114, eK115, eK117, eK118]) (.cons (isK22 h) (.cons (isK103 h) (.cons (isK114 h) (.cons (isK115 h) (.cons (isK117 h) (.cons (isK118 h) (.nil)))))))) (by kernel_rfl) runK119
theorem isK120 : PureC Tryz.prog (Go.Ax.frozen W) (eK120).1 (eK120).2.1 (eK120).2.2 := pure_of_run (pok h (T := [eK119]) (.cons (isK119 h) (.nil))) (by kernel_rfl) runK120
theorem isK121 : PureC Tryz.prog (Go.Ax.frozen W) (eK121).1 (eK121).2.1 (eK121).2.2 := pure_of_run (pok h (T := [eK33, eK96, eK102, eK103, eK104, eK105, eK107, eK109, eK110, eK113, eK120]) (.cons (isK33 h) (.cons (isK96 h) (.cons (isK102 h) (.cons (isK103 h) (.cons (isK104 h) (.cons (isK105 h) (.cons (isK107 h) (.cons (isK109 h) (.cons (isK110 h) (.cons (isK113 h) (.cons (isK120 h) (.nil))))))))))))) (by kernel_rfl) runK121
theorem isK122 : PureC Tryz.prog (Go.Ax.frozen W) (eK122).1 (eK122).2.1 (eK122).2.2 := pure_of_run (pok h (T := []) (.nil)) (by kernel_rfl) runK122
theorem isK123 : PureC Tryz.prog (Go.Ax.frozen W) (eK123).1 (eK123).2.1 (eK123).2.2 := pure_of_run (pok h (T := [eK22, eK37, eK38, eK39, eK40, eK41, eK42, eK43, eK44, eK45, eK46, eK47, eK48, eK49, eK51, eK55, eK56, eK103, eK114, eK122]) (.cons (isK22 h) (.cons (isK37 h) (.cons (isK38 h) (.cons (isK39 h) (.cons (isK40 h) (.cons (isK41 h) (.cons (isK42 h) (.cons (isK43 h) (.cons (isK44 h) (.cons (isK45 h) (.cons (isK46 h) (.cons (isK47 h) (.cons (isK48 h) (.cons (isK49 h) (.cons (isK51 h) (.cons (isK55 h) (.cons (isK56 h) (.cons (isK103 h) (.cons (isK114 h) (.cons (isK122 h) (.nil)))))))))))))))))))))) (by kernel_rfl) runK123
theorem isK124 : PureC Tryz.prog (Go.Ax.frozen W) (eK124).1 (eK124).2.1 (eK124).2.2 := pure_of_run (pok h (T := [eK95, eK121, eK123]) (.cons (isK95 h) (.cons (isK121 h) (.cons (isK123 h) (.nil))))) (by kernel_rfl) runK124
theorem isK125 : PureC Tryz.prog (Go.Ax.frozen W) (eK125).1 (eK125).2.1 (eK125).2.2 := pure_of_run (pok h (T := []) (.nil)) (by kernel_rfl) runK125
theorem isK126 : PureC Tryz.prog (Go.Ax.frozen W) (eK126).1 (eK126).2.1 (eK126).2.2 := pure_of_run (pok h (T := [eK93]) (.cons (isK93 h) (.nil))) (by kernel_rfl) runK126
theorem isK127 : PureC Tryz.prog (Go.Ax.frozen W) (eK127).1 (eK127).2.1 (eK127).2.2 := pure_of_run (pok h (T := []) (.nil)) (by kernel_rfl) runK127
theorem isK128 : PureC Tryz.prog (Go.Ax.frozen W) (eK128).1 (eK128).2.1 (eK128).2.2 := pure_of_run (pok h (T := [eK8]) (.cons (isK8 h) (.nil))) (by kernel_rfl) runK128
theorem isK129 : PureC Tryz.prog (Go.Ax.frozen W) (eK129).1 (eK129).2.1 (eK129).2.2 := pure_of_run (pok h (T := [eK11]) (.cons (isK11 h) (.nil))) (by kernel_rfl) runK129
theorem isK130 : PureC Tryz.prog (Go.Ax.frozen W) (eK130).1 (eK130).2.1 (eK130).2.2 := pure_of_run (pok h (T := []) (.nil)) (by kernel_rfl) runK130
theorem isK131 : PureC Tryz.prog (Go.Ax.frozen W) (eK131).1 (eK131).2.1 (eK131).2.2 := pure_of_run (pok h (T := [eK130]) (.cons (isK130 h) (.nil))) (by kernel_rfl) runK131
theorem isK132 : PureC Tryz.prog (Go.Ax.frozen W) (eK132).1 (eK132).2.1 (eK132).2.2 := pure_of_run (pok h (T := [eK131]) (.cons (isK131 h) (.nil))) (by kernel_rfl) runK132
theorem isK133 : PureC Tryz.prog (Go.Ax.frozen W) (eK133).1 (eK133).2.1 (eK133).2.2 := pure_of_run (pok h (T := [eK17]) (.cons (isK17 h) (.nil))) (by kernel_rfl) runK133
theorem isK134 : PureC Tryz.prog (Go.Ax.frozen W) (eK134).1 (eK134).2.1 (eK134).2.2 := pure_of_run (pok h (T := [eK133]) (.cons (isK133 h) (.nil))) (by kernel_rfl) runK134
theorem isK135 : PureC Tryz.prog (Go.Ax.frozen W) (eK135).1 (eK135).2.1 (eK135).2.2 := pure_of_run (pok h (T := []) (.nil)) (by kernel_rfl) runK135
theorem isK136 : PureC Tryz.prog (Go.Ax.frozen W) (eK136).1 (eK136).2.1 (eK136).2.2 := pure_of_run (pok h (T := [eK135]) (.cons (isK135 h) (.nil))) (by kernel_rfl) runK136
theorem isK137 : PureC Tryz.prog (Go.Ax.frozen W) (eK137).1 (eK137).2.1 (eK137).2.2 := pure_of_run (pok h (T := [eK136]) (.cons (isK136 h) (.nil))) (by kernel_rfl) runK137
theorem isK138 : PureC Tryz.prog (Go.Ax.frozen W) (eK138).1 (eK138).2.1 (eK138).2.2 := pure_of_run (pok h (T := []) (.nil)) (by kernel_rfl) runK138
theorem isK139 : PureC Tryz.prog (Go.Ax.frozen W) (eK139).1 (eK139).2.1 (eK139).2.2 := pure_of_run (pok h (T := [eK2, eK3, eK5, eK6, eK9, eK10, eK12, eK13, eK14, eK15, eK16, eK18, eK22, eK90, eK94, eK125, eK126, eK127, eK128, eK129, eK132, eK134, eK137, eK138]) (.cons (isK2 h) (.cons (isK3 h) (.cons (isK5 h) (.cons (isK6 h) (.cons (isK9 h) (.cons (isK10 h) (.cons (isK12 h) (.cons (isK13 h) (.cons (isK14 h) (.cons (isK15 h) (.cons (isK16 h) (.cons (isK18 h) (.cons (isK22 h) (.cons (isK90 h) (.cons (isK94 h) (.cons (isK125 h) (.cons (isK126 h) (.cons (isK127 h) (.cons (isK128 h) (.cons (isK129 h) (.cons (isK132 h) (.cons (isK134 h) (.cons (isK137 h) (.cons (isK138 h) (.nil)))))))))))))))))))))))))) (by kernel_rfl) runK139
theorem isK140 : PureC Tryz.prog (Go.Ax.frozen W) (eK140).1 (eK140).2.1 (eK140).2.2 := pure_of_run (pok h (T := []) (.nil)) (by kernel_rfl) runK140
theorem isK141 : PureC Tryz.prog (Go.Ax.frozen W) (eK141).1 (eK141).2.1 (eK141).2.2 := pure_of_run (pok h (T := [eK25]) (.cons (isK25 h) (.nil))) (by kernel_rfl) runK141
theorem isK142 : PureC Tryz.prog (Go.Ax.frozen W) (eK142).1 (eK142).2.1 (eK142).2.2 := pure_of_run (pok h (T := [eK141]) (.cons (isK141 h) (.nil))) (by kernel_rfl) runK142
theorem isK143 : PureC Tryz.prog (Go.Ax.frozen W) (eK143).1 (eK143).2.1 (eK143).2.2 := pure_of_run (pok h (T := [eK141]) (.cons (isK141 h) (.nil))) (by kernel_rfl) runK143
theorem isK144 : PureC Tryz.prog (Go.Ax.frozen W) (eK144).1 (eK144).2.1 (eK144).2.2 := pure_of_run (pok h (T := [eK142, eK143]) (.cons (isK142 h) (.cons (isK143 h) (.nil)))) (by kernel_rfl) runK144
theorem isK145 : PureC Tryz.prog (Go.Ax.frozen W) (eK145).1 (eK145).2.1 (eK145).2.2 := pure_of_run (pok h (T := [eK141]) (.cons (isK141 h) (.nil))) (by kernel_rfl) runK145
theorem isK146 : PureC Tryz.prog (Go.Ax.frozen W) (eK146).1 (eK146).2.1 (eK146).2.2 := pure_of_run (pok h (T := []) (.nil)) (by kernel_rfl) runK146
theorem isK147 : PureC Tryz.prog (Go.Ax.frozen W) (eK147).1 (eK147).2.1 (eK147).2.2 := pure_of_run (pok h (T := []) (.nil)) (by kernel_rfl) runK147
theorem isK148 : PureC Tryz.prog (Go.Ax.frozen W) (eK148).1 (eK148).2.1 (eK148).2.2 := pure_of_run (pok h (T := []) (.nil)) (by kernel_rfl) runK148
theorem isK149 : PureC Tryz.prog (Go.Ax.frozen W) (eK149).1 (eK149).2.1 (eK149).2.2 := pure_of_run (pok h (T := []) (.nil)) (by kernel_rfl) runK149
theorem isK150 : PureC Tryz.prog (Go.Ax.frozen W) (eK150).1 (eK150).2.1 (eK150).2.2 := pure_of_run (pok h (T := []) (.nil)) (by kernel_rfl) runK150
theorem isK151 : PureC Tryz.prog (Go.Ax.frozen W) (eK151).1 (eK151).2.1 (eK151).2.2 := pure_of_run (pok h (T := []) (.nil)) (by kernel_rfl) runK151
theorem isK152 : PureC Tryz.prog (Go.Ax.frozen W) (eK152).1 (eK152).2.1 (eK152).2.2 := pure_of_run (pok h (T := []) (.nil)) (by kernel_rfl) runK152
theorem isK153 : PureC Tryz.prog (Go.Ax.frozen W) (eK153).1 (eK153).2.1 (eK153).2.2 := pure_of_run (pok h (T := []) (.nil)) (by kernel_rfl) runK153
theorem isK154 : PureC Tryz.prog (Go.Ax.frozen W) (eK154).1 (eK154).2.1 (eK154).2.2 := pure_of_run (pok h (T := [eK112, eK141, eK142, eK144, eK145, eK146, eK147, eK148, eK149, eK150, eK151, eK152, eK153]) (.cons (isK112 h) (.cons (isK141 h) (.cons (isK142 h) (.cons (isK144 h) (.cons (isK145 h) (.cons (isK146 h) (.cons (isK147 h) (.cons (isK148 h) (.cons (isK149 h) (.cons (isK150 h) (.cons (isK151 h) (.cons (isK152 h) (.cons (isK153 h) (.nil))))))))))))))) (by kernel_rfl) runK154
theorem isK155 : PureC Tryz.prog (Go.Ax.frozen W) (eK155).1 (eK155).2.1 (eK155).2.2 := pure_of_run (pok h (T := [eK154]) (.cons (isK154 h) (.nil))) (by kernel_rfl) runK155
theorem isK156 : PureC Tryz.prog (Go.Ax.frozen W) (eK156).1 (eK156).2.1 (eK156).2.2 := pure_of_run (pok h (T := [eK141]) (.cons (isK141 h) (.nil))) (by kernel_rfl) runK156
theorem isK157 : PureC Tryz.prog (Go.Ax.frozen W) (eK157).1 (eK157).2.1 (eK157).2.2 := pure_of_run (pok h (T := [eK142, eK143, eK156]) (.cons (isK142 h) (.cons (isK143 h) (.cons (isK156 h) (.nil))))) (by kernel_rfl) runK157
theorem isK158 : PureC Tryz.prog (Go.Ax.frozen W) (eK158).1 (eK158).2.1 (eK158).2.2 := pure_of_run (pok h (T := [eK14, eK16, eK18, eK22, eK127, eK138, eK141]) (.cons (isK14 h) (.cons (isK16 h) (.cons (isK18 h) (.cons (isK22 h) (.cons (isK127 h) (.cons (isK138 h) (.cons (isK141 h) (.nil))))))))) (by kernel_rfl) runK158
theorem isK159 : PureC Tryz.prog (Go.Ax.frozen W) (eK159).1 (eK159).2.1 (eK159).2.2 := pure_of_run (pok h (T := [eK25]) (.cons (isK25 h) (.nil))) (by kernel_rfl) runK159
theorem isK160 : PureC Tryz.prog (Go.Ax.frozen W) (eK160).1 (eK160).2.1 (eK160).2.2 := pure_of_run (pok h (T := [eK159]) (.cons (isK159 h) (.nil))) (by kernel_rfl) runK160
theorem isK161 : PureC Tryz.prog (Go.Ax.frozen W) (eK161).1 (eK161).2.1 (eK161).2.2 := pure_of_run (pok h (T := [eK160]) (.cons (isK160 h) (.nil))) (by kernel_rfl) runK161
theorem isK162 : PureC Tryz.prog (Go.Ax.frozen W) (eK162).1 (eK162).2.1 (eK162).2.2 := pure_of_run (pok h (T := [eK25]) (.cons (isK25 h) (.nil))) (by kernel_rfl) runK162
theorem isK163 : PureC Tryz.prog (Go.Ax.frozen W) (eK163).1 (eK163).2.1 (eK163).2.2 := pure_of_run (pok h (T := []) (.nil)) (by kernel_rfl) runK163
theorem isK164 : PureC Tryz.prog (Go.Ax.frozen W) (eK164).1 (eK164).2.1 (eK164).2.2 := pure_of_run (pok h (T := []) (.nil)) (by kernel_rfl) runK164
theorem isK165 : PureC Tryz.prog (Go.Ax.frozen W) (eK165).1 (eK165).2.1 (eK165).2.2 := pure_of_run (pok h (T := []) (.nil)) (by kernel_rfl) runK165
theorem isK166 : PureC Tryz.prog (Go.Ax.frozen W) (eK166).1 (eK166).2.1 (eK166).2.2 := pure_of_run (pok h (T := [eK16, eK22, eK138, eK149, eK152, eK162, eK163, eK164, eK165]) (.cons (isK16 h) (.cons (isK22 h) (.cons (isK138 h) (.cons (isK149 h) (.cons (isK152 h) (.cons (isK162 h) (.cons (isK163 h) (.cons (isK164 h) (.cons (isK165 h) (.nil))))))))))) (by kernel_rfl) runK166
theorem isK167 : PureC Tryz.prog (Go.Ax.frozen W) (eK167).1 (eK167).2.1 (eK167).2.2 := pure_of_run (pok h (T := [eK25]) (.cons (isK25 h) (.nil))) (by kernel_rfl) runK167
theorem isK168 : PureC Tryz.prog (Go.Ax.frozen W) (eK168).1 (eK168).2.1 (eK168).2.2 := pure_of_run (pok h (T := [eK167]) (.cons (isK167 h) (.nil))) (by kernel_rfl) runK168
theorem isK169 : PureC Tryz.prog (Go.Ax.frozen W) (eK169).1 (eK169).2.1 (eK169).2.2 := pure_of_run (pok h (T := [eK167]) (.cons (isK167 h) (.nil))) (by kernel_rfl) runK169
theorem isK170 : PureC Tryz.prog (Go.Ax.frozen W) (eK170).1 (eK170).2.1 (eK170).2.2 := pure_of_run (pok h (T := [eK168, eK169]) (.cons (isK168 h) (.cons (isK169 h) (.nil)))) (by kernel_rfl) runK170
theorem isK171 : PureC Tryz.prog (Go.Ax.frozen W) (eK171).1 (eK171).2.1 (eK171).2.2 := pure_of_run (pok h (T := [eK167]) (.cons (isK167 h) (.nil))) (by kernel_rfl) runK171
theorem isK172 : PureC Tryz.prog (Go.Ax.frozen W) (eK172).1 (eK172).2.1 (eK172).2.2 := pure_of_run (pok h (T := []) (.nil)) (by kernel_rfl) runK172
theorem isK173 : PureC Tryz.prog (Go.Ax.frozen W) (eK173).1 (eK173).2.1 (eK173).2.2 := pure_of_run (pok h (T := [eK112, eK149, eK163, eK167, eK168, eK170, eK171, eK172]) (.cons (isK112 h) (.cons (isK149 h) (.cons (isK163 h) (.cons (isK167 h) (.cons (isK168 h) (.cons (isK170 h) (.cons (isK171 h) (.cons (isK172 h) (.nil)))))))))) (by kernel_rfl) runK173
theorem isK174 : PureC Tryz.prog (Go.Ax.frozen W) (eK174).1 (eK174).2.1 (eK174).2.2 := pure_of_run (pok h (T := [eK173]) (.cons (isK173 h) (.nil))) (by kernel_rfl) runK174
theorem isK175 : PureC Tryz.prog (Go.Ax.frozen W) (eK175).1 (eK175).2.1 (eK175).2.2 := pure_of_run (pok h (T := [eK25, eK112, eK140, eK146, eK147, eK148, eK149, eK150, eK151, eK152, eK153, eK155, eK157, eK158, eK161, eK166, eK174]) (.cons (isK25 h) (.cons (isK112 h) (.cons (isK140 h) (.cons (isK146 h) (.cons (isK147 h) (.cons (isK148 h) (.cons (isK149 h) (.cons (isK150 h) (.cons (isK151 h) (.cons (isK152 h) (.cons (isK153 h) (.cons (isK155 h) (.cons (isK157 h) (.cons (isK158 h) (.cons (isK161 h) (.cons (isK166 h) (.cons (isK174 h) (.nil))))))))))))))))))) (by kernel_rfl) runK175
theorem isK176 : PureC Tryz.prog (Go.Ax.frozen W) (eK176).1 (eK176).2.1 (eK176).2.2 := pure_of_run (pok h (T := []) (.nil)) (by kernel_rfl) runK176
theorem isK177 : PureC Tryz.prog (Go.Ax.frozen W) (eK177).1 (eK177).2.1 (eK177).2.2 := pure_of_run (pok h (T := []) (.nil)) (by kernel_rfl) runK177
theorem isK178 : PureC Tryz.prog (Go.Ax.frozen W) (eK178).1 (eK178).2.1 (eK178).2.2 := pure_of_run (pok h (T := []) (.nil)) (by kernel_rfl) runK178
theorem isK179 : PureC Tryz.prog (Go.Ax.frozen W) (eK179).1 (eK179).2.1 (eK179).2.2 := pure_of_run (pok h (T := []) (.nil)) (by kernel_rfl) runK179
theorem isK180 : PureC Tryz.prog (Go.Ax.frozen W) (eK180).1 (eK180).2.1 (eK180).2.2 := pure_of_run (pok h (T := []) (.nil)) (by kernel_rfl) runK180
theorem isK181 : PureC Tryz.prog (Go.Ax.frozen W) (eK181).1 (eK181).2.1 (eK181).2.2 := pure_of_run (pok h (T := [eK37, eK38, eK39, eK40, eK41, eK42, eK43, eK44, eK45, eK46, eK47, eK48, eK49, eK51, eK55, eK56, eK112, eK149, eK163, eK167, eK172, eK176, eK177, eK178, eK179, eK180]) (.cons (isK37 h) (.cons (isK38 h) (.cons (isK39 h) (.cons (isK40 h) (.cons (isK41 h) (.cons (isK42 h) (.cons (isK43 h) (.cons (isK44 h) (.cons (isK45 h) (.cons (isK46 h) (.cons (isK47 h) (.cons (isK48 h) (.cons (isK49 h) (.cons (isK51 h) (.cons (isK55 h) (.cons (isK56 h) (.cons (isK112 h) (.cons (isK149 h) (.cons (isK163 h) (.cons (isK167 h) (.cons (isK172 h) (.cons (isK176 h) (.cons (isK177 h) (.cons (isK178 h) (.cons (isK179 h) (.cons (isK180 h) (.nil)))))))))))))))))))))))))))) (by kernel_rfl) runK181
theorem isK182 : PureC Tryz.prog (Go.Ax.frozen W) (eK182).1 (eK182).2.1 (eK182).2.2 := pure_of_run (pok h (T := [eK139, eK175, eK181]) (.cons (isK139 h) (.cons (isK175 h) (.cons (isK181 h) (.nil))))) (by kernel_rfl) runK182
theorem isK183 : PureC Tryz.prog (Go.Ax.frozen W) (eK183).1 (eK183).2.1 (eK183).2.2 := pure_of_run (pok h (T := []) (.nil)) (by kernel_rfl) runK183
theorem isK184 : PureC Tryz.prog (Go.Ax.frozen W) (eK184).1 (eK184).2.1 (eK184).2.2 := pure_of_run (pok h (T := [eK3, eK6, eK9, eK12, eK13, eK14, eK15, eK16, eK18, eK21, eK22, eK90, eK92, eK128, eK132, eK183]) (.cons (isK3 h) (.cons (isK6 h) (.cons (isK9 h) (.cons (isK12 h) (.cons (isK13 h) (.cons (isK14 h) (.cons (isK15 h) (.cons (isK16 h) (.cons (isK18 h) (.cons (isK21 h) (.cons (isK22 h) (.cons (isK90 h) (.cons (isK92 h) (.cons (isK128 h) (.cons (isK132 h) (.cons (isK183 h) (.nil)))))))))))))))))) (by kernel_rfl) runK184
theorem isK185 : PureC Tryz.prog (Go.Ax.frozen W) (eK185).1 (eK185).2.1 (eK185).2.2 := pure_of_run (pok h (T := []) (.nil)) (by kernel_rfl) runK185
theorem isK186 : PureC Tryz.prog (Go.Ax.frozen W) (eK186).1 (eK186).2.1 (eK186).2.2 := pure_of_run (pok h (T := [eK25]) (.cons (isK25 h) (.nil))) (by kernel_rfl) runK186
theorem isK187 : PureC Tryz.prog (Go.Ax.frozen W) (eK187).1 (eK187).2.1 (eK187).2.2 := pure_of_run (pok h (T := [eK186]) (.cons (isK186 h) (.nil))) (by kernel_rfl) runK187
theorem isK188 : PureC Tryz.prog (Go.Ax.frozen W) (eK188).1 (eK188).2.1 (eK188).2.2 := pure_of_run (pok h (T := [eK186]) (.cons (isK186 h) (.nil))) (by kernel_rfl) runK188
theorem isK189 : PureC Tryz.prog (Go.Ax.frozen W) (eK189).1 (eK189).2.1 (eK189).2.2 := pure_of_run (pok h (T := [eK187, eK188]) (.cons (isK187 h) (.cons (isK188 h) (.nil)))) (by kernel_rfl) runK189
theorem isK190 : PureC Tryz.prog (Go.Ax.frozen W) (eK190).1 (eK190).2.1 (eK190).2.2 := pure_of_run (pok h (T := [eK186]) (.cons (isK186 h) (.nil))) (by kernel_rfl) runK190
theorem isK191 : PureC Tryz.prog (Go.Ax.frozen W) (eK191).1 (eK191).2.1 (eK191).2.2 := pure_of_run (pok h (T := []) (.nil)) (by kernel_rfl) runK191
theorem isK192 : PureC Tryz.prog (Go.Ax.frozen W) (eK192).1 (eK192).2.1 (eK192).2.2 := pure_of_run (pok h (T := []) (.nil)) (by kernel_rfl) runK192
theorem isK193 : PureC Tryz.prog (Go.Ax.frozen W) (eK193).1 (eK193).2.1 (eK193).2.2 := pure_of_run (pok h (T := [eK31, eK33, eK102, eK104, eK112, eK186, eK187, eK189, eK190, eK191, eK192]) (.cons (isK31 h) (.cons (isK33 h) (.cons (isK102 h) (.cons (isK104 h) (.cons (isK112 h) (.cons (isK186 h) (.cons (isK187 h) (.cons (isK189 h) (.cons (isK190 h) (.cons (isK191 h) (.cons (isK192 h) (.nil))))))))))))) (by kernel_rfl) runK193
theorem isK194 : PureC Tryz.prog (Go.Ax.frozen W) (eK194).1 (eK194).2.1 (eK194).2.2 := pure_of_run (pok h (T := [eK193]) (.cons (isK193 h) (.nil))) (by kernel_rfl) runK194
theorem isK195 : PureC Tryz.prog (Go.Ax.frozen W) (eK195).1 (eK195).2.1 (eK195).2.2 := pure_of_run (pok h (T := [eK186]) (.cons (isK186 h) (.nil))) (by kernel_rfl) runK195
theorem isK196 : PureC Tryz.prog (Go.Ax.frozen W) (eK196).1 (eK196).2.1 (eK196).2.2 := pure_of_run (pok h (T := [eK187, eK188, eK195]) (.cons (isK187 h) (.cons (isK188 h) (.cons (isK195 h) (.nil))))) (by kernel_rfl) runK196
theorem isK197 : PureC Tryz.prog (Go.Ax.frozen W) (eK197).1 (eK197).2.1 (eK197).2.2 := pure_of_run (pok h (T := [eK14, eK16, eK18, eK22, eK186]) (.cons (isK14 h) (.cons (isK16 h) (.cons (isK18 h) (.cons (isK22 h) (.cons (isK186 h) (.nil))))))) (by kernel_rfl) runK197
theorem isK198 : PureC Tryz.prog (Go.Ax.frozen W) (eK198).1 (eK198).2.1 (eK198).2.2 := pure_of_run (pok h (T := [eK25]) (.cons (isK25 h) (.nil))) (by kernel_rfl) runK198
theorem isK199 : PureC Tryz.prog (Go.Ax.frozen W) (eK199).1 (eK199).2.1 (eK199).2.2 := pure_of_run (pok h (T := []) (.nil)) (by kernel_rfl) runK199
theorem isK200 : PureC Tryz.prog (Go.Ax.frozen W) (eK200).1 (eK200).2.1 (eK200).2.2 := pure_of_run (pok h (T := [eK14, eK16, eK18, eK22, eK31, eK112, eK191, eK198, eK199]) (.cons (isK14 h) (.cons (isK16 h) (.cons (isK18 h) (.cons (isK22 h) (.cons (isK31 h) (.cons (isK112 h) (.cons (isK191 h) (.cons (isK198 h) (.cons (isK199 h) (.nil))))))))))) (by kernel_rfl) runK200
theorem isK201 : PureC Tryz.prog (Go.Ax.frozen W) (eK201).1 (eK201).2.1 (eK201).2.2 := pure_of_run (pok h (T := [eK25]) (.cons (isK25 h) (.nil))) (by kernel_rfl) runK201
theorem isK202 : PureC Tryz.prog (Go.Ax.frozen W) (eK202).1 (eK202).2.1 (eK202).2.2 := pure_of_run (pok h (T := [eK201]) (.cons (isK201 h) (.nil))) (by kernel_rfl) runK202
theorem isK203 : PureC Tryz.prog (Go.Ax.frozen W) (eK203).1 (eK203).2.1 (eK203).2.2 := pure_of_run (pok h (T := [eK201]) (.cons (isK201 h) (.nil))) (by kernel_rfl) runK203
theorem isK204 : PureC Tryz.prog (Go.Ax.frozen W) (eK204).1 (eK204).2.1 (eK204).2.2 := pure_of_run (pok h (T := [eK202, eK203]) (.cons (isK202 h) (.cons (isK203 h) (.nil)))) (by kernel_rfl) runK204
theorem isK205 : PureC Tryz.prog (Go.Ax.frozen W) (eK205).1 (eK205).2.1 (eK205).2.2 := pure_of_run (pok h (T := [eK201]) (.cons (isK201 h) (.nil))) (by kernel_rfl) runK205
theorem isK206 : PureC Tryz.prog (Go.Ax.frozen W) (eK206).1 (eK206).2.1 (eK206).2.2 := pure_of_run (pok h (T := [eK22, eK31, eK33, eK191, eK201, eK202, eK204, eK205]) (.cons (isK22 h) (.cons (isK31 h) (.cons (isK33 h) (.cons (isK191 h) (.cons (isK201 h) (.cons (isK202 h) (.cons (isK204 h) (.cons (isK205 h) (.nil)))))))))) (by kernel_rfl) runK206
theorem isK207 : PureC Tryz.prog (Go.Ax.frozen W) (eK207).1 (eK207).2.1 (eK207).2.2 := pure_of_run (pok h (T := [eK206]) (.cons (isK206 h) (.nil))) (by kernel_rfl) runK207
theorem isK208 : PureC Tryz.prog (Go.Ax.frozen W) (eK208).1 (eK208).2.1 (eK208).2.2 := pure_of_run (pok h (T := [eK201]) (.cons (isK201 h) (.nil))) (by kernel_rfl) runK208
theorem isK209 : PureC Tryz.prog (Go.Ax.frozen W) (eK209).1 (eK209).2.1 (eK209).2.2 := pure_of_run (pok h (T := [eK202, eK203, eK208]) (.cons (isK202 h) (.cons (isK203 h) (.cons (isK208 h) (.nil))))) (by kernel_rfl) runK209
theorem isK210 : PureC Tryz.prog (Go.Ax.frozen W) (eK210).1 (eK210).2.1 (eK210).2.2 := pure_of_run (pok h (T := [eK14, eK16, eK18, eK22, eK201]) (.cons (isK14 h) (.cons (isK16 h) (.cons (isK18 h) (.cons (isK22 h) (.cons (isK201 h) (.nil))))))) (by kernel_rfl) runK210
theorem isK211 : PureC Tryz.prog (Go.Ax.frozen W) (eK211).1 (eK211).2.1 (eK211).2.2 := pure_of_run (pok h (T := [eK25]) (.cons (isK25 h) (.nil))) (by kernel_rfl) runK211
theorem isK212 : PureC Tryz.prog (Go.Ax.frozen W) (eK212).1 (eK212).2.1 (eK212).2.2 := pure_of_run (pok h (T := [eK16, eK191, eK211]) (.cons (isK16 h) (.cons (isK191 h) (.cons (isK211 h) (.nil))))) (by kernel_rfl) runK212
theorem isK213 : PureC Tryz.prog (Go.Ax.frozen W) (eK213).1 (eK213).2.1 (eK213).2.2 := pure_of_run (pok h (T := [eK25]) (.cons (isK25 h) (.nil))) (by kernel_rfl) runK213
theorem isK214 : PureC Tryz.prog (Go.Ax.frozen W) (eK214).1 (eK214).2.1 (eK214).2.2 := pure_of_run (pok h (T := [eK213]) (.cons (isK213 h) (.nil))) (by kernel_rfl) runK214
theorem isK215 : PureC Tryz.prog (Go.Ax.frozen W) (eK215).1 (eK215).2.1 (eK215).2.2 := pure_of_run (pok h (T := [eK213]) (.cons (isK213 h) (.nil))) (by kernel_rfl) runK215
theorem isK216 : PureC Tryz.prog (Go.Ax.frozen W) (eK216).1 (eK216).2.1 (eK216).2.2 := pure_of_run (pok h (T := [eK214, eK215]) (.cons (isK214 h) (.cons (isK215 h) (.nil)))) (by kernel_rfl) runK216
theorem isK217 : PureC Tryz.prog (Go.Ax.frozen W) (eK217).1 (eK217).2.1 (eK217).2.2 := pure_of_run (pok h (T := [eK213]) (.cons (isK213 h) (.nil))) (by kernel_rfl) runK217
theorem isK218 : PureC Tryz.prog (Go.Ax.frozen W) (eK218).1 (eK218).2.1 (eK218).2.2 := pure_of_run (pok h (T := [eK191, eK213, eK214, eK216, eK217]) (.cons (isK191 h) (.cons (isK213 h) (.cons (isK214 h) (.cons (isK216 h) (.cons (isK217 h) (.nil))))))) (by kernel_rfl) runK218
theorem isK219 : PureC Tryz.prog (Go.Ax.frozen W) (eK219).1 (eK219).2.1 (eK219).2.2 := pure_of_run (pok h (T := [eK218]) (.cons (isK218 h) (.nil))) (by kernel_rfl) runK219
theorem isK220 : PureC Tryz.prog (Go.Ax.frozen W) (eK220).1 (eK220).2.1 (eK220).2.2 := pure_of_run (pok h (T := [eK22, eK31, eK33, eK102, eK104, eK112, eK185, eK191, eK192, eK194, eK196, eK197, eK200, eK207, eK209, eK210, eK212, eK219]) (.cons (isK22 h) (.cons (isK31 h) (.cons (isK33 h) (.cons (isK102 h) (.cons (isK104 h) (.cons (isK112 h) (.cons (isK185 h) (.cons (isK191 h) (.cons (isK192 h) (.cons (isK194 h) (.cons (isK196 h) (.cons (isK197 h) (.cons (isK200 h) (.cons (isK207 h) (.cons (isK209 h) (.cons (isK210 h) (.cons (isK212 h) (.cons (isK219 h) (.nil)))))))))))))))))))) (by kernel_rfl) runK220
theorem isK221 : PureC Tryz.prog (Go.Ax.frozen W) (eK221).1 (eK221).2.1 (eK221).2.2 := pure_of_run (pok h (T := []) (.nil)) (by kernel_rfl) runK221
theorem isK222 : PureC Tryz.prog (Go.Ax.frozen W) (eK222).1 (eK222).2.1 (eK222).2.2 := pure_of_run (pok h (T := [eK37, eK38, eK39, eK40, eK41, eK42, eK43, eK44, eK45, eK46, eK47, eK48, eK49, eK56, eK191, eK213, eK221]) (.cons (isK37 h) (.cons (isK38 h) (.cons (isK39 h) (.cons (isK40 h) (.cons (isK41 h) (.cons (isK42 h) (.cons (isK43 h) (.cons (isK44 h) (.cons (isK45 h) (.cons (isK46 h) (.cons (isK47 h) (.cons (isK48 h) (.cons (isK49 h) (.cons (isK56 h) (.cons (isK191 h) (.cons (isK213 h) (.cons (isK221 h) (.nil))))))))))))))))))) (by kernel_rfl) runK222
theorem isK223 : PureC Tryz.prog (Go.Ax.frozen W) (eK223).1 (eK223).2.1 (eK223).2.2 := pure_of_run (pok h (T := [eK184, eK220, eK222]) (.cons (isK184 h) (.cons (isK220 h) (.cons (isK222 h) (.nil))))) (by kernel_rfl) runK223
theorem isK224 : PureC Tryz.prog (Go.Ax.frozen W) (eK224).1 (eK224).2.1 (eK224).2.2 := pure_of_run (pok h (T := [eK22, eK31, eK33, eK68, eK70]) (.cons (isK22 h) (.cons (isK31 h) (.cons (isK33 h) (.cons (isK68 h) (.cons (isK70 h) (.nil))))))) (by kernel_rfl) runK224
theorem isK225 : PureC Tryz.prog (Go.Ax.frozen W) (eK225).1 (eK225).2.1 (eK225).2.2 := pure_of_run (pok h (T := [eK22, eK31, eK33, eK68, eK70]) (.cons (isK22 h) (.cons (isK31 h) (.cons (isK33 h) (.cons (isK68 h) (.cons (isK70 h) (.nil))))))) (by kernel_rfl) runK225
theorem isK226 : PureC Tryz.prog (Go.Ax.frozen W) (eK226).1 (eK226).2.1 (eK226).2.2 := pure_of_run (pok h (T := [eK68]) (.cons (isK68 h) (.nil))) (by kernel_rfl) runK226
theorem isK227 : PureC Tryz.prog (Go.Ax.frozen W) (eK227).1 (eK227).2.1 (eK227).2.2 := pure_of_run (pok h (T := []) (.nil)) (by kernel_rfl) runK227
theorem isK228 : PureC Tryz.prog (Go.Ax.frozen W) (eK228).1 (eK228).2.1 (eK228).2.2 := pure_of_run (pok h (T := []) (.nil)) (by kernel_rfl) runK228
theorem isK229 : PureC Tryz.prog (Go.Ax.frozen W) (eK229).1 (eK229).2.1 (eK229).2.2 := pure_of_run (pok h (T := [eK228]) (.cons (isK228 h) (.nil))) (by kernel_rfl) runK229
theorem isK230 : PureC Tryz.prog (Go.Ax.frozen W) (eK230).1 (eK230).2.1 (eK230).2.2 := pure_of_run (pok h (T := [eK229]) (.cons (isK229 h) (.nil))) (by kernel_rfl) runK230
theorem isK231 : PureC Tryz.prog (Go.Ax.frozen W) (eK231).1 (eK231).2.1 (eK231).2.2 := pure_of_run (pok h (T := [eK230]) (.cons (isK230 h) (.nil))) (by kernel_rfl) runK231
theorem isK232 : PureC Tryz.prog (Go.Ax.frozen W) (eK232).1 (eK232).2.1 (eK232).2.2 := pure_of_run (pok h (T := [eK227, eK231]) (.cons (isK227 h) (.cons (isK231 h) (.nil)))) (by kernel_rfl) runK232
theorem isK233 : PureC Tryz.prog (Go.Ax.frozen W) (eK233).1 (eK233).2.1 (eK233).2.2 := pure_of_run (pok h (T := []) (.nil)) (by kernel_rfl) runK233
theorem isK234 : PureC Tryz.prog (Go.Ax.frozen W) (eK234).1 (eK234).2.1 (eK234).2.2 := pure_of_run (pok h (T := [eK3, eK6, eK9, eK12, eK13, eK14, eK15, eK16, eK17, eK18, eK22, eK94, eK233]) (.cons (isK3 h) (.cons (isK6 h) (.cons (isK9 h) (.cons (isK12 h) (.cons (isK13 h) (.cons (isK14 h) (.cons (isK15 h) (.cons (isK16 h) (.cons (isK17 h) (.cons (isK18 h) (.cons (isK22 h) (.cons (isK94 h) (.cons (isK233 h) (.nil))))))))))))))) (by kernel_rfl) runK234
theorem isK235 : PureC Tryz.prog (Go.Ax.frozen W) (eK235).1 (eK235).2.1 (eK235).2.2 := pure_of_run (pok h (T := []) (.nil)) (by kernel_rfl) runK235
theorem isK236 : PureC Tryz.prog (Go.Ax.frozen W) (eK236).1 (eK236).2.1 (eK236).2.2 := pure_of_run (pok h (T := [eK25]) (.cons (isK25 h) (.nil))) (by kernel_rfl) runK236
theorem isK237 : PureC Tryz.prog (Go.Ax.frozen W) (eK237).1 (eK237).2.1 (eK237).2.2 := pure_of_run (pok h (T := [eK236]) (.cons (isK236 h) (.nil))) (by kernel_rfl) runK237
theorem isK238 : PureC Tryz.prog (Go.Ax.frozen W) (eK238).1 (eK238).2.1 (eK238).2.2 := pure_of_run (pok h (T := [eK236]) (.cons (isK236 h) (.nil))) (by kernel_rfl) runK238
theorem isK239 : PureC Tryz.prog (Go.Ax.frozen W) (eK239).1 (eK239).2.1 (eK239).2.2 := pure_of_run (pok h (T := [eK237, eK238]) (.cons (isK237 h) (.cons (isK238 h) (.nil)))) (by kernel_rfl) runK239
theorem isK240 : PureC Tryz.prog (Go.Ax.frozen W) (eK240).1 (eK240).2.1 (eK240).2.2 := pure_of_run (pok h (T := [eK236]) (.cons (isK236 h) (.nil))) (by kernel_rfl) runK240
theorem isK241 : PureC Tryz.prog (Go.Ax.frozen W) (eK241).1 (eK241).2.1 (eK241).2.2 := pure_of_run (pok h (T := [eK22, eK31, eK32, eK33, eK236, eK237, eK239, eK240]) (.cons (isK22 h) (.cons (isK31 h) (.cons (isK32 h) (.cons (isK33 h) (.cons (isK236 h) (.cons (isK237 h) (.cons (isK239 h) (.cons (isK240 h) (.nil)))))))))) (by kernel_rfl) runK241
theorem isK242 : PureC Tryz.prog (Go.Ax.frozen W) (eK242).1 (eK242).2.1 (eK242).2.2 := pure_of_run (pok h (T := [eK241]) (.cons (isK241 h) (.nil))) (by kernel_rfl) runK242
theorem isK243 : PureC Tryz.prog (Go.Ax.frozen W) (eK243).1 (eK243).2.1 (eK243).2.2 := pure_of_run (pok h (T := [eK236]) (.cons (isK236 h) (.nil))) (by kernel_rfl) runK243
theorem isK244 : PureC Tryz.prog (Go.Ax.frozen W) (eK244).1 (eK244).2.1 (eK244).2.2 := pure_of_run (pok h (T := [eK237, eK238, eK243]) (.cons (isK237 h) (.cons (isK238 h) (.cons (isK243 h) (.nil))))) (by kernel_rfl) runK244
theorem isK245 : PureC Tryz.prog (Go.Ax.frozen W) (eK245).1 (eK245).2.1 (eK245).2.2 := pure_of_run (pok h (T := [eK14, eK16, eK18, eK22, eK236]) (.cons (isK14 h) (.cons (isK16 h) (.cons (isK18 h) (.cons (isK22 h) (.cons (isK236 h) (.nil))))))) (by kernel_rfl) runK245
theorem isK246 : PureC Tryz.prog (Go.Ax.frozen W) (eK246).1 (eK246).2.1 (eK246).2.2 := pure_of_run (pok h (T := [eK25]) (.cons (isK25 h) (.nil))) (by kernel_rfl) runK246
theorem isK247 : PureC Tryz.prog (Go.Ax.frozen W) (eK247).1 (eK247).2.1 (eK247).2.2 := pure_of_run (pok h (T := [eK16, eK32, eK246]) (.cons (isK16 h) (.cons (isK32 h) (.cons (isK246 h) (.nil))))) (by kernel_rfl) runK247
theorem isK248 : PureC Tryz.prog (Go.Ax.frozen W) (eK248).1 (eK248).2.1 (eK248).2.2 := pure_of_run (pok h (T := [eK25]) (.cons (isK25 h) (.nil))) (by kernel_rfl) runK248
theorem isK249 : PureC Tryz.prog (Go.Ax.frozen W) (eK249).1 (eK249).2.1 (eK249).2.2 := pure_of_run (pok h (T := [eK248]) (.cons (isK248 h) (.nil))) (by kernel_rfl) runK249
theorem isK250 : PureC Tryz.prog (Go.Ax.frozen W) (eK250).1 (eK250).2.1 (eK250).2.2 := pure_of_run (pok h (T := [eK248]) (.cons (isK248 h) (.nil))) (by kernel_rfl) runK250
theorem isK251 : PureC Tryz.prog (Go.Ax.frozen W) (eK251).1 (eK251).2.1 (eK251).2.2 := pure_of_run (pok h (T := [eK249, eK250]) (.cons (isK249 h) (.cons (isK250 h) (.nil)))) (by kernel_rfl) runK251
theorem isK252 : PureC Tryz.prog (Go.Ax.frozen W) (eK252).1 (eK252).2.1 (eK252).2.2 := pure_of_run (pok h (T := [eK248]) (.cons (isK248 h) (.nil))) (by kernel_rfl) runK252
theorem isK253 : PureC Tryz.prog (Go.Ax.frozen W) (eK253).1 (eK253).2.1 (eK253).2.2 := pure_of_run (pok h (T := [eK32, eK248, eK249, eK251, eK252]) (.cons (isK32 h) (.cons (isK248 h) (.cons (isK249 h) (.cons (isK251 h) (.cons (isK252 h) (.nil))))))) (by kernel_rfl) runK253
theorem isK254 : PureC Tryz.prog (Go.Ax.frozen W) (eK254).1 (eK254).2.1 (eK254).2.2 := pure_of_run (pok h (T := [eK253]) (.cons (isK253 h) (.nil))) (by kernel_rfl) runK254
theorem isK255 : PureC Tryz.prog (Go.Ax.frozen W) (eK255).1 (eK255).2.1 (eK255).2.2 := pure_of_run (pok h (T := [eK22, eK31, eK32, eK33, eK235, eK242, eK244, eK245, eK247, eK254]) (.cons (isK22 h) (.cons (isK31 h) (.cons (isK32 h) (.cons (isK33 h) (.cons (isK235 h) (.cons (isK242 h) (.cons (isK244 h) (.cons (isK245 h) (.cons (isK247 h) (.cons (isK254 h) (.nil)))))))))))) (by kernel_rfl) runK255
theorem isK256 : PureC Tryz.prog (Go.Ax.frozen W) (eK256).1 (eK256).2.1 (eK256).2.2 := pure_of_run (pok h (T := [eK32, eK37, eK38, eK39, eK40, eK41, eK42, eK43, eK44, eK45, eK46, eK47, eK48, eK49, eK52, eK56, eK248]) (.cons (isK32 h) (.cons (isK37 h) (.cons (isK38 h) (.cons (isK39 h) (.cons (isK40 h) (.cons (isK41 h) (.cons (isK42 h) (.cons (isK43 h) (.cons (isK44 h) (.cons (isK45 h) (.cons (isK46 h) (.cons (isK47 h) (.cons (isK48 h) (.cons (isK49 h) (.cons (isK52 h) (.cons (isK56 h) (.cons (isK248 h) (.nil))))))))))))))))))) (by kernel_rfl) runK256
theorem isK257 : PureC Tryz.prog (Go.Ax.frozen W) (eK257).1 (eK257).2.1 (eK257).2.2 := pure_of_run (pok h (T := [eK234, eK255, eK256]) (.cons (isK234 h) (.cons (isK255 h) (.cons (isK256 h) (.nil))))) (by kernel_rfl) runK257
theorem isK258 : PureC Tryz.prog (Go.Ax.frozen W) (eK258).1 (eK258).2.1 (eK258).2.2 := pure_of_run (pok h (T := []) (.nil)) (by kernel_rfl) runK258
theorem isK259 : PureC Tryz.prog (Go.Ax.frozen W) (eK259).1 (eK259).2.1 (eK259).2.2 := pure_of_run (pok h (T := [eK3, eK6, eK9, eK12, eK13, eK14, eK15, eK22, eK258]) (.cons (isK3 h) (.cons (isK6 h) (.cons (isK9 h) (.cons (isK12 h) (.cons (isK13 h) (.cons (isK14 h) (.cons (isK15 h) (.cons (isK22 h) (.cons (isK258 h) (.nil))))))))))) (by kernel_rfl) runK259
theorem isK260 : PureC Tryz.prog (Go.Ax.frozen W) (eK260).1 (eK260).2.1 (eK260).2.2 := pure_of_run (pok h (T := []) (.nil)) (by kernel_rfl) runK260
theorem isK261 : PureC Tryz.prog (Go.Ax.frozen W) (eK261).1 (eK261).2.1 (eK261).2.2 := pure_of_run (pok h (T := [eK25]) (.cons (isK25 h) (.nil))) (by kernel_rfl) runK261
theorem isK262 : PureC Tryz.prog (Go.Ax.frozen W) (eK262).1 (eK262).2.1 (eK262).2.2 := pure_of_run (pok h (T := [eK261]) (.cons (isK261 h) (.nil))) (by kernel_rfl) runK262
theorem isK263 : PureC Tryz.prog (Go.Ax.frozen W) (eK263).1 (eK263).2.1 (eK263).2.2 := pure_of_run (pok h (T := [eK261]) (.cons (isK261 h) (.nil))) (by kernel_rfl) runK263
theorem isK264 : PureC Tryz.prog (Go.Ax.frozen W) (eK264).1 (eK264).2.1 (eK264).2.2 := pure_of_run (pok h (T := [eK262, eK263]) (.cons (isK262 h) (.cons (isK263 h) (.nil)))) (by kernel_rfl) runK264
theorem isK265 : PureC Tryz.prog (Go.Ax.frozen W) (eK265).1 (eK265).2.1 (eK265).2.2 := pure_of_run (pok h (T := [eK261]) (.cons (isK261 h) (.nil))) (by kernel_rfl) runK265
theorem isK266 : PureC Tryz.prog (Go.Ax.frozen W) (eK266).1 (eK266).2.1 (eK266).2.2 := pure_of_run (pok h (T := [eK22, eK31, eK261, eK262, eK264, eK265]) (.cons (isK22 h) (.cons (isK31 h) (.cons (isK261 h) (.cons (isK262 h) (.cons (isK264 h) (.cons (isK265 h) (.nil)))))))) (by kernel_rfl) runK266
theorem isK267 : PureC Tryz.prog (Go.Ax.frozen W) (eK267).1 (eK267).2.1 (eK267).2.2 := pure_of_run (pok h (T := [eK266]) (.cons (isK266 h) (.nil))) (by kernel_rfl) runK267
theorem isK268 : PureC Tryz.prog (Go.Ax.frozen W) (eK268).1 (eK268).2.1 (eK268).2.2 := pure_of_run (pok h (T := [eK261]) (.cons (isK261 h) (.nil))) (by kernel_rfl) runK268
theorem isK269 : PureC Tryz.prog (Go.Ax.frozen W) (eK269).1 (eK269).2.1 (eK269).2.2 := pure_of_run (pok h (T := [eK268]) (.cons (isK268 h) (.nil))) (by kernel_rfl) runK269
theorem isK270 : PureC Tryz.prog (Go.Ax.frozen W) (eK270).1 (eK270).2.1 (eK270).2.2 := pure_of_run (pok h (T := [eK25]) (.cons (isK25 h) (.nil))) (by kernel_rfl) runK270
theorem isK271 : PureC Tryz.prog (Go.Ax.frozen W) (eK271).1 (eK271).2.1 (eK271).2.2 := pure_of_run (pok h (T := [eK16, eK270]) (.cons (isK16 h) (.cons (isK270 h) (.nil)))) (by kernel_rfl) runK271
theorem isK272 : PureC Tryz.prog (Go.Ax.frozen W) (eK272).1 (eK272).2.1 (eK272).2.2 := pure_of_run (pok h (T := [eK25]) (.cons (isK25 h) (.nil))) (by kernel_rfl) runK272
theorem isK273 : PureC Tryz.prog (Go.Ax.frozen W) (eK273).1 (eK273).2.1 (eK273).2.2 := pure_of_run (pok h (T := [eK272]) (.cons (isK272 h) (.nil))) (by kernel_rfl) runK273
theorem isK274 : PureC Tryz.prog (Go.Ax.frozen W) (eK274).1 (eK274).2.1 (eK274).2.2 := pure_of_run (pok h (T := [eK272]) (.cons (isK272 h) (.nil))) (by kernel_rfl) runK274
theorem isK275 : PureC Tryz.prog (Go.Ax.frozen W) (eK275).1 (eK275).2.1 (eK275).2.2 := pure_of_run (pok h (T := [eK273, eK274]) (.cons (isK273 h) (.cons (isK274 h) (.nil)))) (by kernel_rfl) runK275
theorem isK276 : PureC Tryz.prog (Go.Ax.frozen W) (eK276).1 (eK276).2.1 (eK276).2.2 := pure_of_run (pok h (T := [eK272]) (.cons (isK272 h) (.nil))) (by kernel_rfl) runK276
theorem isK277 : PureC Tryz.prog (Go.Ax.frozen W) (eK277).1 (eK277).2.1 (eK277).2.2 := pure_of_run (pok h (T := [eK16, eK272, eK273, eK275, eK276]) (.cons (isK16 h) (.cons (isK272 h) (.cons (isK273 h) (.cons (isK275 h) (.cons (isK276 h) (.nil))))))) (by kernel_rfl) runK277
theorem isK278 : PureC Tryz.prog (Go.Ax.frozen W) (eK278).1 (eK278).2.1 (eK278).2.2 := pure_of_run (pok h (T := [eK277]) (.cons (isK277 h) (.nil))) (by kernel_rfl) runK278
theorem isK279 : PureC Tryz.prog (Go.Ax.frozen W) (eK279).1 (eK279).2.1 (eK279).2.2 := pure_of_run (pok h (T := [eK22, eK31, eK260, eK267, eK269, eK271, eK278]) (.cons (isK22 h) (.cons (isK31 h) (.cons (isK260 h) (.cons (isK267 h) (.cons (isK269 h) (.cons (isK271 h) (.cons (isK278 h) (.nil))))))))) (by kernel_rfl) runK279
theorem isK280 : PureC Tryz.prog (Go.Ax.frozen W) (eK280).1 (eK280).2.1 (eK280).2.2 := pure_of_run (pok h (T := []) (.nil)) (by kernel_rfl) runK280
theorem isK281 : PureC Tryz.prog (Go.Ax.frozen W) (eK281).1 (eK281).2.1 (eK281).2.2 := pure_of_run (pok h (T := [eK16, eK37, eK38, eK39, eK40, eK41, eK42, eK43, eK44, eK45, eK46, eK47, eK48, eK49, eK56, eK272, eK280]) (.cons (isK16 h) (.cons (isK37 h) (.cons (isK38 h) (.cons (isK39 h) (.cons (isK40 h) (.cons (isK41 h) (.cons (isK42 h) (.cons (isK43 h) (.cons (isK44 h) (.cons (isK45 h) (.cons (isK46 h) (.cons (isK47 h) (.cons (isK48 h) (.cons (isK49 h) (.cons (isK56 h) (.cons (isK272 h) (.cons (isK280 h) (.nil))))))))))))))))))) (by kernel_rfl) runK281
theorem isK282 : PureC Tryz.prog (Go.Ax.frozen W) (eK282).1 (eK282).2.1 (eK282).2.2 := pure_of_run (pok h (T := [eK259, eK279, eK281]) (.cons (isK259 h) (.cons (isK279 h) (.cons (isK281 h) (.nil))))) (by kernel_rfl) runK282
theorem isK283 : PureC Tryz.prog (Go.Ax.frozen W) (eK283).1 (eK283).2.1 (eK283).2.2 := pure_of_run (pok h (T := [eK257, eK282]) (.cons (isK257 h) (.cons (isK282 h) (.nil)))) (by kernel_rfl) runK283
theorem tabsK : AllPure Tryz.prog (Go.Ax.frozen W) [eK58, eK60, eK73, eK88, eK124, eK182, eK223, eK224, eK225, eK226, eK232, eK283] := .cons (isK58 h) (.cons (isK60 h) (.cons (isK73 h) (.cons (isK88 h) (.cons (isK124 h) (.cons (isK182 h) (.cons (isK223 h) (.cons (isK224 h) (.cons (isK225 h) (.cons (isK226 h) (.cons (isK232 h) (.cons (isK283 h) (.nil))))))))))))
end
abbrev tabLK : Tab := [eK58, eK60, eK73, eK88, eK124, eK182, eK223, eK224, eK225, eK226, eK232, eK283]
end Go.Proofs.YtolmndaigpcdaaaGreatDoor
