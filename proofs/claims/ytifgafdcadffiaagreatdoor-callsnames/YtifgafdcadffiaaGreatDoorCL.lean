/- CallsNames: the law's own run, and that all told calls are right. -/
import Derived.Test.YtifgafdcadffiaaGreatDoorCR0
import Derived.Test.YtifgafdcadffiaaGreatDoorCR1
import Derived.Test.YtifgafdcadffiaaGreatDoorCR2
import Derived.Test.YtifgafdcadffiaaGreatDoorCR3
import Derived.Test.YtifgafdcadffiaaGreatDoorCR4
import Derived.Test.YtifgafdcadffiaaGreatDoorCR5
import Derived.Test.YtifgafdcadffiaaGreatDoorCR6
import Derived.Test.YtifgafdcadffiaaGreatDoorCR7
namespace Go.Proofs.YtifgafdcadffiaaGreatDoor
open Go.Ax
theorem runC : okTrue (call Tryz.prog (cx [eC32, eC87, eC89, eC91, eC97, eC100, eC126, eC128, eC130, eC132, eC134]) 20000 3 [] h0) = true := by kernel_rfl
section
variable {W : World} (h : laidMetH Tryz.prog laidR W)
include h
theorem isC0 : PureC Tryz.prog (Go.Ax.frozen W) (eC0).1 (eC0).2.1 (eC0).2.2 := pure_of_run (pok h (T := []) (.nil)) (by kernel_rfl) runC0
theorem isC1 : PureC Tryz.prog (Go.Ax.frozen W) (eC1).1 (eC1).2.1 (eC1).2.2 := pure_of_run (pok h (T := []) (.nil)) (by kernel_rfl) runC1
theorem isC2 : PureC Tryz.prog (Go.Ax.frozen W) (eC2).1 (eC2).2.1 (eC2).2.2 := pure_of_run (pok h (T := [eC1]) (.cons (isC1 h) (.nil))) (by kernel_rfl) runC2
theorem isC3 : PureC Tryz.prog (Go.Ax.frozen W) (eC3).1 (eC3).2.1 (eC3).2.2 := pure_of_run (pok h (T := [eC2]) (.cons (isC2 h) (.nil))) (by kernel_rfl) runC3
theorem isC4 : PureC Tryz.prog (Go.Ax.frozen W) (eC4).1 (eC4).2.1 (eC4).2.2 := pure_of_run (pok h (T := []) (.nil)) (by kernel_rfl) runC4
theorem isC5 : PureC Tryz.prog (Go.Ax.frozen W) (eC5).1 (eC5).2.1 (eC5).2.2 := pure_of_run (pok h (T := [eC4]) (.cons (isC4 h) (.nil))) (by kernel_rfl) runC5
theorem isC6 : PureC Tryz.prog (Go.Ax.frozen W) (eC6).1 (eC6).2.1 (eC6).2.2 := pure_of_run (pok h (T := [eC5]) (.cons (isC5 h) (.nil))) (by kernel_rfl) runC6
theorem isC7 : PureC Tryz.prog (Go.Ax.frozen W) (eC7).1 (eC7).2.1 (eC7).2.2 := pure_of_run (pok h (T := [eC2]) (.cons (isC2 h) (.nil))) (by kernel_rfl) runC7
theorem isC8 : PureC Tryz.prog (Go.Ax.frozen W) (eC8).1 (eC8).2.1 (eC8).2.2 := pure_of_run (pok h (T := []) (.nil)) (by kernel_rfl) runC8
theorem isC9 : PureC Tryz.prog (Go.Ax.frozen W) (eC9).1 (eC9).2.1 (eC9).2.2 := pure_of_run (pok h (T := []) (.nil)) (by kernel_rfl) runC9
theorem isC10 : PureC Tryz.prog (Go.Ax.frozen W) (eC10).1 (eC10).2.1 (eC10).2.2 := pure_of_run (pok h (T := [eC5]) (.cons (isC5 h) (.nil))) (by kernel_rfl) runC10
theorem isC11 : PureC Tryz.prog (Go.Ax.frozen W) (eC11).1 (eC11).2.1 (eC11).2.2 := pure_of_run (pok h (T := []) (.nil)) (by kernel_rfl) runC11
theorem isC12 : PureC Tryz.prog (Go.Ax.frozen W) (eC12).1 (eC12).2.1 (eC12).2.2 := pure_of_run (pok h (T := []) (.nil)) (by kernel_rfl) runC12
theorem isC13 : PureC Tryz.prog (Go.Ax.frozen W) (eC13).1 (eC13).2.1 (eC13).2.2 := pure_of_run (pok h (T := [eC5]) (.cons (isC5 h) (.nil))) (by kernel_rfl) runC13
theorem isC14 : PureC Tryz.prog (Go.Ax.frozen W) (eC14).1 (eC14).2.1 (eC14).2.2 := pure_of_run (pok h (T := []) (.nil)) (by kernel_rfl) runC14
theorem isC15 : PureC Tryz.prog (Go.Ax.frozen W) (eC15).1 (eC15).2.1 (eC15).2.2 := pure_of_run (pok h (T := [eC14]) (.cons (isC14 h) (.nil))) (by kernel_rfl) runC15
theorem isC16 : PureC Tryz.prog (Go.Ax.frozen W) (eC16).1 (eC16).2.1 (eC16).2.2 := pure_of_run (pok h (T := [eC15]) (.cons (isC15 h) (.nil))) (by kernel_rfl) runC16
theorem isC17 : PureC Tryz.prog (Go.Ax.frozen W) (eC17).1 (eC17).2.1 (eC17).2.2 := pure_of_run (pok h (T := []) (.nil)) (by kernel_rfl) runC17
theorem isC18 : PureC Tryz.prog (Go.Ax.frozen W) (eC18).1 (eC18).2.1 (eC18).2.2 := pure_of_run (pok h (T := []) (.nil)) (by kernel_rfl) runC18
theorem isC19 : PureC Tryz.prog (Go.Ax.frozen W) (eC19).1 (eC19).2.1 (eC19).2.2 := pure_of_run (pok h (T := [eC15]) (.cons (isC15 h) (.nil))) (by kernel_rfl) runC19
theorem isC20 : PureC Tryz.prog (Go.Ax.frozen W) (eC20).1 (eC20).2.1 (eC20).2.2 := pure_of_run (pok h (T := [eC5]) (.cons (isC5 h) (.nil))) (by kernel_rfl) runC20
theorem isC21 : PureC Tryz.prog (Go.Ax.frozen W) (eC21).1 (eC21).2.1 (eC21).2.2 := pure_of_run (pok h (T := [eC15]) (.cons (isC15 h) (.nil))) (by kernel_rfl) runC21
theorem isC22 : PureC Tryz.prog (Go.Ax.frozen W) (eC22).1 (eC22).2.1 (eC22).2.2 := pure_of_run (pok h (T := [eC15]) (.cons (isC15 h) (.nil))) (by kernel_rfl) runC22
theorem isC23 : PureC Tryz.prog (Go.Ax.frozen W) (eC23).1 (eC23).2.1 (eC23).2.2 := pure_of_run (pok h (T := []) (.nil)) (by kernel_rfl) runC23
theorem isC24 : PureC Tryz.prog (Go.Ax.frozen W) (eC24).1 (eC24).2.1 (eC24).2.2 := pure_of_run (pok h (T := [eC23]) (.cons (isC23 h) (.nil))) (by kernel_rfl) runC24
theorem isC25 : PureC Tryz.prog (Go.Ax.frozen W) (eC25).1 (eC25).2.1 (eC25).2.2 := pure_of_run (pok h (T := [eC24]) (.cons (isC24 h) (.nil))) (by kernel_rfl) runC25
theorem isC26 : PureC Tryz.prog (Go.Ax.frozen W) (eC26).1 (eC26).2.1 (eC26).2.2 := pure_of_run (pok h (T := []) (.nil)) (by kernel_rfl) runC26
theorem isC27 : PureC Tryz.prog (Go.Ax.frozen W) (eC27).1 (eC27).2.1 (eC27).2.2 := pure_of_run (pok h (T := [eC26]) (.cons (isC26 h) (.nil))) (by kernel_rfl) runC27
theorem isC28 : PureC Tryz.prog (Go.Ax.frozen W) (eC28).1 (eC28).2.1 (eC28).2.2 := pure_of_run (pok h (T := [eC27]) (.cons (isC27 h) (.nil))) (by kernel_rfl) runC28
theorem isC29 : PureC Tryz.prog (Go.Ax.frozen W) (eC29).1 (eC29).2.1 (eC29).2.2 := pure_of_run (pok h (T := []) (.nil)) (by kernel_rfl) runC29
theorem isC30 : PureC Tryz.prog (Go.Ax.frozen W) (eC30).1 (eC30).2.1 (eC30).2.2 := pure_of_run (pok h (T := []) (.nil)) (by kernel_rfl) runC30
theorem isC31 : PureC Tryz.prog (Go.Ax.frozen W) (eC31).1 (eC31).2.1 (eC31).2.2 := pure_of_run (pok h (T := []) (.nil)) (by kernel_rfl) runC31
theorem isC32 : PureC Tryz.prog (Go.Ax.frozen W) (eC32).1 (eC32).2.1 (eC32).2.2 := pure_of_run (pok h (T := [eC0, eC1, eC3, eC4, eC6, eC7, eC8, eC9, eC10, eC11, eC12, eC13, eC16, eC17, eC18, eC19, eC20, eC21, eC22, eC25, eC28, eC29, eC30, eC31]) (.cons (isC0 h) (.cons (isC1 h) (.cons (isC3 h) (.cons (isC4 h) (.cons (isC6 h) (.cons (isC7 h) (.cons (isC8 h) (.cons (isC9 h) (.cons (isC10 h) (.cons (isC11 h) (.cons (isC12 h) (.cons (isC13 h) (.cons (isC16 h) (.cons (isC17 h) (.cons (isC18 h) (.cons (isC19 h) (.cons (isC20 h) (.cons (isC21 h) (.cons (isC22 h) (.cons (isC25 h) (.cons (isC28 h) (.cons (isC29 h) (.cons (isC30 h) (.cons (isC31 h) (.nil)))))))))))))))))))))))))) (by kernel_rfl) runC32
theorem isC33 : PureC Tryz.prog (Go.Ax.frozen W) (eC33).1 (eC33).2.1 (eC33).2.2 := pure_of_run (pok h (T := []) (.nil)) (by kernel_rfl) runC33
theorem isC34 : PureC Tryz.prog (Go.Ax.frozen W) (eC34).1 (eC34).2.1 (eC34).2.2 := pure_of_run (pok h (T := [eC33]) (.cons (isC33 h) (.nil))) (by kernel_rfl) runC34
theorem isC35 : PureC Tryz.prog (Go.Ax.frozen W) (eC35).1 (eC35).2.1 (eC35).2.2 := pure_of_run (pok h (T := [eC34]) (.cons (isC34 h) (.nil))) (by kernel_rfl) runC35
theorem isC36 : PureC Tryz.prog (Go.Ax.frozen W) (eC36).1 (eC36).2.1 (eC36).2.2 := pure_of_run (pok h (T := [eC35]) (.cons (isC35 h) (.nil))) (by kernel_rfl) runC36
theorem isC37 : PureC Tryz.prog (Go.Ax.frozen W) (eC37).1 (eC37).2.1 (eC37).2.2 := pure_of_run (pok h (T := [eC35]) (.cons (isC35 h) (.nil))) (by kernel_rfl) runC37
theorem isC38 : PureC Tryz.prog (Go.Ax.frozen W) (eC38).1 (eC38).2.1 (eC38).2.2 := pure_of_run (pok h (T := [eC36, eC37]) (.cons (isC36 h) (.cons (isC37 h) (.nil)))) (by kernel_rfl) runC38
theorem isC39 : PureC Tryz.prog (Go.Ax.frozen W) (eC39).1 (eC39).2.1 (eC39).2.2 := pure_of_run (pok h (T := [eC35]) (.cons (isC35 h) (.nil))) (by kernel_rfl) runC39
theorem isC40 : PureC Tryz.prog (Go.Ax.frozen W) (eC40).1 (eC40).2.1 (eC40).2.2 := pure_of_run (pok h (T := []) (.nil)) (by kernel_rfl) runC40
theorem isC41 : PureC Tryz.prog (Go.Ax.frozen W) (eC41).1 (eC41).2.1 (eC41).2.2 := pure_of_run (pok h (T := []) (.nil)) (by kernel_rfl) runC41
theorem isC42 : PureC Tryz.prog (Go.Ax.frozen W) (eC42).1 (eC42).2.1 (eC42).2.2 := pure_of_run (pok h (T := []) (.nil)) (by kernel_rfl) runC42
theorem isC43 : PureC Tryz.prog (Go.Ax.frozen W) (eC43).1 (eC43).2.1 (eC43).2.2 := pure_of_run (pok h (T := [eC34]) (.cons (isC34 h) (.nil))) (by kernel_rfl) runC43
theorem isC44 : PureC Tryz.prog (Go.Ax.frozen W) (eC44).1 (eC44).2.1 (eC44).2.2 := pure_of_run (pok h (T := [eC43]) (.cons (isC43 h) (.nil))) (by kernel_rfl) runC44
theorem isC45 : PureC Tryz.prog (Go.Ax.frozen W) (eC45).1 (eC45).2.1 (eC45).2.2 := pure_of_run (pok h (T := [eC43]) (.cons (isC43 h) (.nil))) (by kernel_rfl) runC45
theorem isC46 : PureC Tryz.prog (Go.Ax.frozen W) (eC46).1 (eC46).2.1 (eC46).2.2 := pure_of_run (pok h (T := [eC44, eC45]) (.cons (isC44 h) (.cons (isC45 h) (.nil)))) (by kernel_rfl) runC46
theorem isC47 : PureC Tryz.prog (Go.Ax.frozen W) (eC47).1 (eC47).2.1 (eC47).2.2 := pure_of_run (pok h (T := [eC43]) (.cons (isC43 h) (.nil))) (by kernel_rfl) runC47
theorem isC48 : PureC Tryz.prog (Go.Ax.frozen W) (eC48).1 (eC48).2.1 (eC48).2.2 := pure_of_run (pok h (T := []) (.nil)) (by kernel_rfl) runC48
theorem isC49 : PureC Tryz.prog (Go.Ax.frozen W) (eC49).1 (eC49).2.1 (eC49).2.2 := pure_of_run (pok h (T := []) (.nil)) (by kernel_rfl) runC49
theorem isC50 : PureC Tryz.prog (Go.Ax.frozen W) (eC50).1 (eC50).2.1 (eC50).2.2 := pure_of_run (pok h (T := [eC43]) (.cons (isC43 h) (.nil))) (by kernel_rfl) runC50
theorem isC51 : PureC Tryz.prog (Go.Ax.frozen W) (eC51).1 (eC51).2.1 (eC51).2.2 := pure_of_run (pok h (T := []) (.nil)) (by kernel_rfl) runC51
theorem isC52 : PureC Tryz.prog (Go.Ax.frozen W) (eC52).1 (eC52).2.1 (eC52).2.2 := pure_of_run (pok h (T := []) (.nil)) (by kernel_rfl) runC52
theorem isC53 : PureC Tryz.prog (Go.Ax.frozen W) (eC53).1 (eC53).2.1 (eC53).2.2 := pure_of_run (pok h (T := [eC43]) (.cons (isC43 h) (.nil))) (by kernel_rfl) runC53
theorem isC54 : PureC Tryz.prog (Go.Ax.frozen W) (eC54).1 (eC54).2.1 (eC54).2.2 := pure_of_run (pok h (T := []) (.nil)) (by kernel_rfl) runC54
theorem isC55 : PureC Tryz.prog (Go.Ax.frozen W) (eC55).1 (eC55).2.1 (eC55).2.2 := pure_of_run (pok h (T := []) (.nil)) (by kernel_rfl) runC55
theorem isC56 : PureC Tryz.prog (Go.Ax.frozen W) (eC56).1 (eC56).2.1 (eC56).2.2 := pure_of_run (pok h (T := [eC34]) (.cons (isC34 h) (.nil))) (by kernel_rfl) runC56
theorem isC57 : PureC Tryz.prog (Go.Ax.frozen W) (eC57).1 (eC57).2.1 (eC57).2.2 := pure_of_run (pok h (T := [eC56]) (.cons (isC56 h) (.nil))) (by kernel_rfl) runC57
theorem isC58 : PureC Tryz.prog (Go.Ax.frozen W) (eC58).1 (eC58).2.1 (eC58).2.2 := pure_of_run (pok h (T := [eC56]) (.cons (isC56 h) (.nil))) (by kernel_rfl) runC58
theorem isC59 : PureC Tryz.prog (Go.Ax.frozen W) (eC59).1 (eC59).2.1 (eC59).2.2 := pure_of_run (pok h (T := [eC57, eC58]) (.cons (isC57 h) (.cons (isC58 h) (.nil)))) (by kernel_rfl) runC59
theorem isC60 : PureC Tryz.prog (Go.Ax.frozen W) (eC60).1 (eC60).2.1 (eC60).2.2 := pure_of_run (pok h (T := [eC56]) (.cons (isC56 h) (.nil))) (by kernel_rfl) runC60
theorem isC61 : PureC Tryz.prog (Go.Ax.frozen W) (eC61).1 (eC61).2.1 (eC61).2.2 := pure_of_run (pok h (T := []) (.nil)) (by kernel_rfl) runC61
theorem isC62 : PureC Tryz.prog (Go.Ax.frozen W) (eC62).1 (eC62).2.1 (eC62).2.2 := pure_of_run (pok h (T := []) (.nil)) (by kernel_rfl) runC62
theorem isC63 : PureC Tryz.prog (Go.Ax.frozen W) (eC63).1 (eC63).2.1 (eC63).2.2 := pure_of_run (pok h (T := [eC8, eC9, eC11, eC17, eC29, eC34, eC36, eC38, eC39, eC40, eC41, eC42, eC44, eC46, eC47, eC48, eC49, eC50, eC51, eC52, eC53, eC54, eC55, eC57, eC59, eC60, eC61, eC62]) (.cons (isC8 h) (.cons (isC9 h) (.cons (isC11 h) (.cons (isC17 h) (.cons (isC29 h) (.cons (isC34 h) (.cons (isC36 h) (.cons (isC38 h) (.cons (isC39 h) (.cons (isC40 h) (.cons (isC41 h) (.cons (isC42 h) (.cons (isC44 h) (.cons (isC46 h) (.cons (isC47 h) (.cons (isC48 h) (.cons (isC49 h) (.cons (isC50 h) (.cons (isC51 h) (.cons (isC52 h) (.cons (isC53 h) (.cons (isC54 h) (.cons (isC55 h) (.cons (isC57 h) (.cons (isC59 h) (.cons (isC60 h) (.cons (isC61 h) (.cons (isC62 h) (.nil)))))))))))))))))))))))))))))) (by kernel_rfl) runC63
theorem isC64 : PureC Tryz.prog (Go.Ax.frozen W) (eC64).1 (eC64).2.1 (eC64).2.2 := pure_of_run (pok h (T := [eC63]) (.cons (isC63 h) (.nil))) (by kernel_rfl) runC64
theorem isC65 : PureC Tryz.prog (Go.Ax.frozen W) (eC65).1 (eC65).2.1 (eC65).2.2 := pure_of_run (pok h (T := [eC35, eC43, eC56, eC64]) (.cons (isC35 h) (.cons (isC43 h) (.cons (isC56 h) (.cons (isC64 h) (.nil)))))) (by kernel_rfl) runC65
theorem isC66 : PureC Tryz.prog (Go.Ax.frozen W) (eC66).1 (eC66).2.1 (eC66).2.2 := pure_of_run (pok h (T := []) (.nil)) (by kernel_rfl) runC66
theorem isC67 : PureC Tryz.prog (Go.Ax.frozen W) (eC67).1 (eC67).2.1 (eC67).2.2 := pure_of_run (pok h (T := [eC35, eC43, eC56, eC64]) (.cons (isC35 h) (.cons (isC43 h) (.cons (isC56 h) (.cons (isC64 h) (.nil)))))) (by kernel_rfl) runC67
theorem isC68 : PureC Tryz.prog (Go.Ax.frozen W) (eC68).1 (eC68).2.1 (eC68).2.2 := pure_of_run (pok h (T := []) (.nil)) (by kernel_rfl) runC68
theorem isC69 : PureC Tryz.prog (Go.Ax.frozen W) (eC69).1 (eC69).2.1 (eC69).2.2 := pure_of_run (pok h (T := [eC68]) (.cons (isC68 h) (.nil))) (by kernel_rfl) runC69
theorem isC70 : PureC Tryz.prog (Go.Ax.frozen W) (eC70).1 (eC70).2.1 (eC70).2.2 := pure_of_run (pok h (T := []) (.nil)) (by kernel_rfl) runC70
theorem isC71 : PureC Tryz.prog (Go.Ax.frozen W) (eC71).1 (eC71).2.1 (eC71).2.2 := pure_of_run (pok h (T := []) (.nil)) (by kernel_rfl) runC71
theorem isC72 : PureC Tryz.prog (Go.Ax.frozen W) (eC72).1 (eC72).2.1 (eC72).2.2 := pure_of_run (pok h (T := []) (.nil)) (by kernel_rfl) runC72
theorem isC73 : PureC Tryz.prog (Go.Ax.frozen W) (eC73).1 (eC73).2.1 (eC73).2.2 := pure_of_run (pok h (T := [eC68]) (.cons (isC68 h) (.nil))) (by kernel_rfl) runC73
theorem isC74 : PureC Tryz.prog (Go.Ax.frozen W) (eC74).1 (eC74).2.1 (eC74).2.2 := pure_of_run (pok h (T := [eC68]) (.cons (isC68 h) (.nil))) (by kernel_rfl) runC74
theorem isC75 : PureC Tryz.prog (Go.Ax.frozen W) (eC75).1 (eC75).2.1 (eC75).2.2 := pure_of_run (pok h (T := [eC70]) (.cons (isC70 h) (.nil))) (by kernel_rfl) runC75
theorem isC76 : PureC Tryz.prog (Go.Ax.frozen W) (eC76).1 (eC76).2.1 (eC76).2.2 := pure_of_run (pok h (T := [eC68]) (.cons (isC68 h) (.nil))) (by kernel_rfl) runC76
theorem isC77 : PureC Tryz.prog (Go.Ax.frozen W) (eC77).1 (eC77).2.1 (eC77).2.2 := pure_of_run (pok h (T := [eC68]) (.cons (isC68 h) (.nil))) (by kernel_rfl) runC77
theorem isC78 : PureC Tryz.prog (Go.Ax.frozen W) (eC78).1 (eC78).2.1 (eC78).2.2 := pure_of_run (pok h (T := [eC68]) (.cons (isC68 h) (.nil))) (by kernel_rfl) runC78
theorem isC79 : PureC Tryz.prog (Go.Ax.frozen W) (eC79).1 (eC79).2.1 (eC79).2.2 := pure_of_run (pok h (T := [eC68]) (.cons (isC68 h) (.nil))) (by kernel_rfl) runC79
theorem isC80 : PureC Tryz.prog (Go.Ax.frozen W) (eC80).1 (eC80).2.1 (eC80).2.2 := pure_of_run (pok h (T := [eC68]) (.cons (isC68 h) (.nil))) (by kernel_rfl) runC80
theorem isC81 : PureC Tryz.prog (Go.Ax.frozen W) (eC81).1 (eC81).2.1 (eC81).2.2 := pure_of_run (pok h (T := [eC68]) (.cons (isC68 h) (.nil))) (by kernel_rfl) runC81
theorem isC82 : PureC Tryz.prog (Go.Ax.frozen W) (eC82).1 (eC82).2.1 (eC82).2.2 := pure_of_run (pok h (T := [eC68]) (.cons (isC68 h) (.nil))) (by kernel_rfl) runC82
theorem isC83 : PureC Tryz.prog (Go.Ax.frozen W) (eC83).1 (eC83).2.1 (eC83).2.2 := pure_of_run (pok h (T := [eC68]) (.cons (isC68 h) (.nil))) (by kernel_rfl) runC83
theorem isC84 : PureC Tryz.prog (Go.Ax.frozen W) (eC84).1 (eC84).2.1 (eC84).2.2 := pure_of_all (pok h (T := [eC35, eC43, eC56, eC64, eC66, eC67, eC69, eC70, eC71, eC72, eC73, eC74, eC75, eC76, eC77, eC78, eC79, eC80, eC81, eC82, eC83]) (.cons (isC35 h) (.cons (isC43 h) (.cons (isC56 h) (.cons (isC64 h) (.cons (isC66 h) (.cons (isC67 h) (.cons (isC69 h) (.cons (isC70 h) (.cons (isC71 h) (.cons (isC72 h) (.cons (isC73 h) (.cons (isC74 h) (.cons (isC75 h) (.cons (isC76 h) (.cons (isC77 h) (.cons (isC78 h) (.cons (isC79 h) (.cons (isC80 h) (.cons (isC81 h) (.cons (isC82 h) (.cons (isC83 h) (.nil))))))))))))))))))))))) (by kernel_rfl) runC84
theorem isC85 : PureC Tryz.prog (Go.Ax.frozen W) (eC85).1 (eC85).2.1 (eC85).2.2 := pure_of_run (pok h (T := []) (.nil)) (by kernel_rfl) runC85
theorem isC86 : PureC Tryz.prog (Go.Ax.frozen W) (eC86).1 (eC86).2.1 (eC86).2.2 := pure_of_run (pok h (T := [eC85]) (.cons (isC85 h) (.nil))) (by kernel_rfl) runC86
theorem isC87 : PureC Tryz.prog (Go.Ax.frozen W) (eC87).1 (eC87).2.1 (eC87).2.2 := pure_of_run (pok h (T := [eC65, eC84, eC86]) (.cons (isC65 h) (.cons (isC84 h) (.cons (isC86 h) (.nil))))) (by kernel_rfl) runC87
theorem isC88 : PureC Tryz.prog (Go.Ax.frozen W) (eC88).1 (eC88).2.1 (eC88).2.2 := pure_of_all (pok h (T := [eC87]) (.cons (isC87 h) (.nil))) (by kernel_rfl) runC88
theorem isC89 : PureC Tryz.prog (Go.Ax.frozen W) (eC89).1 (eC89).2.1 (eC89).2.2 := pure_of_run (pok h (T := [eC35, eC88]) (.cons (isC35 h) (.cons (isC88 h) (.nil)))) (by kernel_rfl) runC89
theorem isC90 : PureC Tryz.prog (Go.Ax.frozen W) (eC90).1 (eC90).2.1 (eC90).2.2 := pure_of_run (pok h (T := []) (.nil)) (by kernel_rfl) runC90
theorem isC91 : PureC Tryz.prog (Go.Ax.frozen W) (eC91).1 (eC91).2.1 (eC91).2.2 := pure_of_run (pok h (T := [eC88, eC90]) (.cons (isC88 h) (.cons (isC90 h) (.nil)))) (by kernel_rfl) runC91
theorem isC92 : PureC Tryz.prog (Go.Ax.frozen W) (eC92).1 (eC92).2.1 (eC92).2.2 := pure_of_run (pok h (T := []) (.nil)) (by kernel_rfl) runC92
theorem isC93 : PureC Tryz.prog (Go.Ax.frozen W) (eC93).1 (eC93).2.1 (eC93).2.2 := pure_of_run (pok h (T := [eC92]) (.cons (isC92 h) (.nil))) (by kernel_rfl) runC93
theorem isC94 : PureC Tryz.prog (Go.Ax.frozen W) (eC94).1 (eC94).2.1 (eC94).2.2 := pure_of_run (pok h (T := [eC93]) (.cons (isC93 h) (.nil))) (by kernel_rfl) runC94
theorem isC95 : PureC Tryz.prog (Go.Ax.frozen W) (eC95).1 (eC95).2.1 (eC95).2.2 := pure_of_run (pok h (T := [eC94]) (.cons (isC94 h) (.nil))) (by kernel_rfl) runC95
theorem isC96 : PureC Tryz.prog (Go.Ax.frozen W) (eC96).1 (eC96).2.1 (eC96).2.2 := pure_of_run (pok h (T := [eC95]) (.cons (isC95 h) (.nil))) (by kernel_rfl) runC96
theorem isC97 : PureC Tryz.prog (Go.Ax.frozen W) (eC97).1 (eC97).2.1 (eC97).2.2 := pure_of_run (pok h (T := [eC96]) (.cons (isC96 h) (.nil))) (by kernel_rfl) runC97
theorem isC98 : PureC Tryz.prog (Go.Ax.frozen W) (eC98).1 (eC98).2.1 (eC98).2.2 := pure_of_run (pok h (T := []) (.nil)) (by kernel_rfl) runC98
theorem isC99 : PureC Tryz.prog (Go.Ax.frozen W) (eC99).1 (eC99).2.1 (eC99).2.2 := pure_of_run (pok h (T := [eC2]) (.cons (isC2 h) (.nil))) (by kernel_rfl) runC99
theorem isC100 : PureC Tryz.prog (Go.Ax.frozen W) (eC100).1 (eC100).2.1 (eC100).2.2 := pure_of_run (pok h (T := [eC3, eC4, eC6, eC7, eC8, eC9, eC11, eC12, eC98, eC99]) (.cons (isC3 h) (.cons (isC4 h) (.cons (isC6 h) (.cons (isC7 h) (.cons (isC8 h) (.cons (isC9 h) (.cons (isC11 h) (.cons (isC12 h) (.cons (isC98 h) (.cons (isC99 h) (.nil)))))))))))) (by kernel_rfl) runC100
theorem isC101 : PureC Tryz.prog (Go.Ax.frozen W) (eC101).1 (eC101).2.1 (eC101).2.2 := pure_of_run (pok h (T := []) (.nil)) (by kernel_rfl) runC101
theorem isC102 : PureC Tryz.prog (Go.Ax.frozen W) (eC102).1 (eC102).2.1 (eC102).2.2 := pure_of_run (pok h (T := [eC101]) (.cons (isC101 h) (.nil))) (by kernel_rfl) runC102
theorem isC103 : PureC Tryz.prog (Go.Ax.frozen W) (eC103).1 (eC103).2.1 (eC103).2.2 := pure_of_run (pok h (T := [eC102]) (.cons (isC102 h) (.nil))) (by kernel_rfl) runC103
theorem isC104 : PureC Tryz.prog (Go.Ax.frozen W) (eC104).1 (eC104).2.1 (eC104).2.2 := pure_of_run (pok h (T := [eC103]) (.cons (isC103 h) (.nil))) (by kernel_rfl) runC104
theorem isC105 : PureC Tryz.prog (Go.Ax.frozen W) (eC105).1 (eC105).2.1 (eC105).2.2 := pure_of_run (pok h (T := [eC103]) (.cons (isC103 h) (.nil))) (by kernel_rfl) runC105
theorem isC106 : PureC Tryz.prog (Go.Ax.frozen W) (eC106).1 (eC106).2.1 (eC106).2.2 := pure_of_run (pok h (T := [eC104, eC105]) (.cons (isC104 h) (.cons (isC105 h) (.nil)))) (by kernel_rfl) runC106
theorem isC107 : PureC Tryz.prog (Go.Ax.frozen W) (eC107).1 (eC107).2.1 (eC107).2.2 := pure_of_run (pok h (T := [eC103]) (.cons (isC103 h) (.nil))) (by kernel_rfl) runC107
theorem isC108 : PureC Tryz.prog (Go.Ax.frozen W) (eC108).1 (eC108).2.1 (eC108).2.2 := pure_of_run (pok h (T := [eC102]) (.cons (isC102 h) (.nil))) (by kernel_rfl) runC108
theorem isC109 : PureC Tryz.prog (Go.Ax.frozen W) (eC109).1 (eC109).2.1 (eC109).2.2 := pure_of_run (pok h (T := [eC108]) (.cons (isC108 h) (.nil))) (by kernel_rfl) runC109
theorem isC110 : PureC Tryz.prog (Go.Ax.frozen W) (eC110).1 (eC110).2.1 (eC110).2.2 := pure_of_run (pok h (T := [eC108]) (.cons (isC108 h) (.nil))) (by kernel_rfl) runC110
theorem isC111 : PureC Tryz.prog (Go.Ax.frozen W) (eC111).1 (eC111).2.1 (eC111).2.2 := pure_of_run (pok h (T := [eC109, eC110]) (.cons (isC109 h) (.cons (isC110 h) (.nil)))) (by kernel_rfl) runC111
theorem isC112 : PureC Tryz.prog (Go.Ax.frozen W) (eC112).1 (eC112).2.1 (eC112).2.2 := pure_of_run (pok h (T := [eC108]) (.cons (isC108 h) (.nil))) (by kernel_rfl) runC112
theorem isC113 : PureC Tryz.prog (Go.Ax.frozen W) (eC113).1 (eC113).2.1 (eC113).2.2 := pure_of_run (pok h (T := [eC8, eC11, eC12, eC40, eC62, eC102, eC104, eC106, eC107, eC109, eC111, eC112]) (.cons (isC8 h) (.cons (isC11 h) (.cons (isC12 h) (.cons (isC40 h) (.cons (isC62 h) (.cons (isC102 h) (.cons (isC104 h) (.cons (isC106 h) (.cons (isC107 h) (.cons (isC109 h) (.cons (isC111 h) (.cons (isC112 h) (.nil)))))))))))))) (by kernel_rfl) runC113
theorem isC114 : PureC Tryz.prog (Go.Ax.frozen W) (eC114).1 (eC114).2.1 (eC114).2.2 := pure_of_run (pok h (T := [eC113]) (.cons (isC113 h) (.nil))) (by kernel_rfl) runC114
theorem isC115 : PureC Tryz.prog (Go.Ax.frozen W) (eC115).1 (eC115).2.1 (eC115).2.2 := pure_of_run (pok h (T := [eC103, eC108, eC114]) (.cons (isC103 h) (.cons (isC108 h) (.cons (isC114 h) (.nil))))) (by kernel_rfl) runC115
theorem isC116 : PureC Tryz.prog (Go.Ax.frozen W) (eC116).1 (eC116).2.1 (eC116).2.2 := pure_of_run (pok h (T := []) (.nil)) (by kernel_rfl) runC116
theorem isC117 : PureC Tryz.prog (Go.Ax.frozen W) (eC117).1 (eC117).2.1 (eC117).2.2 := pure_of_run (pok h (T := [eC103, eC108, eC114]) (.cons (isC103 h) (.cons (isC108 h) (.cons (isC114 h) (.nil))))) (by kernel_rfl) runC117
theorem isC118 : PureC Tryz.prog (Go.Ax.frozen W) (eC118).1 (eC118).2.1 (eC118).2.2 := pure_of_run (pok h (T := []) (.nil)) (by kernel_rfl) runC118
theorem isC119 : PureC Tryz.prog (Go.Ax.frozen W) (eC119).1 (eC119).2.1 (eC119).2.2 := pure_of_run (pok h (T := [eC118]) (.cons (isC118 h) (.nil))) (by kernel_rfl) runC119
theorem isC120 : PureC Tryz.prog (Go.Ax.frozen W) (eC120).1 (eC120).2.1 (eC120).2.2 := pure_of_run (pok h (T := [eC118]) (.cons (isC118 h) (.nil))) (by kernel_rfl) runC120
theorem isC121 : PureC Tryz.prog (Go.Ax.frozen W) (eC121).1 (eC121).2.1 (eC121).2.2 := pure_of_run (pok h (T := [eC118]) (.cons (isC118 h) (.nil))) (by kernel_rfl) runC121
theorem isC122 : PureC Tryz.prog (Go.Ax.frozen W) (eC122).1 (eC122).2.1 (eC122).2.2 := pure_of_run (pok h (T := [eC118]) (.cons (isC118 h) (.nil))) (by kernel_rfl) runC122
theorem isC123 : PureC Tryz.prog (Go.Ax.frozen W) (eC123).1 (eC123).2.1 (eC123).2.2 := pure_of_all (pok h (T := [eC103, eC108, eC114, eC116, eC117, eC119, eC120, eC121, eC122]) (.cons (isC103 h) (.cons (isC108 h) (.cons (isC114 h) (.cons (isC116 h) (.cons (isC117 h) (.cons (isC119 h) (.cons (isC120 h) (.cons (isC121 h) (.cons (isC122 h) (.nil))))))))))) (by kernel_rfl) runC123
theorem isC124 : PureC Tryz.prog (Go.Ax.frozen W) (eC124).1 (eC124).2.1 (eC124).2.2 := pure_of_run (pok h (T := [eC115, eC123]) (.cons (isC115 h) (.cons (isC123 h) (.nil)))) (by kernel_rfl) runC124
theorem isC125 : PureC Tryz.prog (Go.Ax.frozen W) (eC125).1 (eC125).2.1 (eC125).2.2 := pure_of_all (pok h (T := [eC124]) (.cons (isC124 h) (.nil))) (by kernel_rfl) runC125
theorem isC126 : PureC Tryz.prog (Go.Ax.frozen W) (eC126).1 (eC126).2.1 (eC126).2.2 := pure_of_run (pok h (T := [eC103, eC125]) (.cons (isC103 h) (.cons (isC125 h) (.nil)))) (by kernel_rfl) runC126
theorem isC127 : PureC Tryz.prog (Go.Ax.frozen W) (eC127).1 (eC127).2.1 (eC127).2.2 := pure_of_run (pok h (T := []) (.nil)) (by kernel_rfl) runC127
theorem isC128 : PureC Tryz.prog (Go.Ax.frozen W) (eC128).1 (eC128).2.1 (eC128).2.2 := pure_of_run (pok h (T := [eC125, eC127]) (.cons (isC125 h) (.cons (isC127 h) (.nil)))) (by kernel_rfl) runC128
theorem isC129 : PureC Tryz.prog (Go.Ax.frozen W) (eC129).1 (eC129).2.1 (eC129).2.2 := pure_of_run (pok h (T := []) (.nil)) (by kernel_rfl) runC129
theorem isC130 : PureC Tryz.prog (Go.Ax.frozen W) (eC130).1 (eC130).2.1 (eC130).2.2 := pure_of_run (pok h (T := [eC88, eC129]) (.cons (isC88 h) (.cons (isC129 h) (.nil)))) (by kernel_rfl) runC130
theorem isC131 : PureC Tryz.prog (Go.Ax.frozen W) (eC131).1 (eC131).2.1 (eC131).2.2 := pure_of_run (pok h (T := []) (.nil)) (by kernel_rfl) runC131
theorem isC132 : PureC Tryz.prog (Go.Ax.frozen W) (eC132).1 (eC132).2.1 (eC132).2.2 := pure_of_run (pok h (T := [eC88, eC131]) (.cons (isC88 h) (.cons (isC131 h) (.nil)))) (by kernel_rfl) runC132
theorem isC133 : PureC Tryz.prog (Go.Ax.frozen W) (eC133).1 (eC133).2.1 (eC133).2.2 := pure_of_run (pok h (T := []) (.nil)) (by kernel_rfl) runC133
theorem isC134 : PureC Tryz.prog (Go.Ax.frozen W) (eC134).1 (eC134).2.1 (eC134).2.2 := pure_of_run (pok h (T := [eC88, eC133]) (.cons (isC88 h) (.cons (isC133 h) (.nil)))) (by kernel_rfl) runC134
theorem tabsC : AllPure Tryz.prog (Go.Ax.frozen W) [eC32, eC87, eC89, eC91, eC97, eC100, eC126, eC128, eC130, eC132, eC134] := .cons (isC32 h) (.cons (isC87 h) (.cons (isC89 h) (.cons (isC91 h) (.cons (isC97 h) (.cons (isC100 h) (.cons (isC126 h) (.cons (isC128 h) (.cons (isC130 h) (.cons (isC132 h) (.cons (isC134 h) (.nil)))))))))))
end
abbrev tabLC : Tab := [eC32, eC87, eC89, eC91, eC97, eC100, eC126, eC128, eC130, eC132, eC134]
end Go.Proofs.YtifgafdcadffiaaGreatDoor
