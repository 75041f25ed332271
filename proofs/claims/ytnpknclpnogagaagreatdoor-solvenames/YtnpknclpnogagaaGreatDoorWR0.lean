/- SolveNames: calls, as the abstract machine reckons them, part 0. -/
import Derived.Test.YtnpknclpnogagaaGreatDoorWV
namespace Go.Proofs.YtnpknclpnogagaaGreatDoor
open Go.Ax
theorem runW0 : pureOk 1000 (eW0).2.2 (call Tryz.prog (cx []) 20000 (eW0).1 (eW0).2.1 h0) = true := by kernel_rfl
theorem runW1 : pureOk 1000 (eW1).2.2 (call Tryz.prog (cx []) 20000 (eW1).1 (eW1).2.1 h0) = true := by kernel_rfl
theorem runW2 : pureOk 1000 (eW2).2.2 (call Tryz.prog (cx [eW1]) 20000 (eW2).1 (eW2).2.1 h0) = true := by kernel_rfl
theorem runW3 : pureOk 1000 (eW3).2.2 (call Tryz.prog (cx [eW2]) 20000 (eW3).1 (eW3).2.1 h0) = true := by kernel_rfl
theorem runW4 : pureOk 1000 (eW4).2.2 (call Tryz.prog (cx []) 20000 (eW4).1 (eW4).2.1 h0) = true := by kernel_rfl
theorem runW5 : pureOk 1000 (eW5).2.2 (call Tryz.prog (cx [eW4]) 20000 (eW5).1 (eW5).2.1 h0) = true := by kernel_rfl
theorem runW6 : pureOk 1000 (eW6).2.2 (call Tryz.prog (cx [eW5]) 20000 (eW6).1 (eW6).2.1 h0) = true := by kernel_rfl
theorem runW7 : pureOk 1000 (eW7).2.2 (call Tryz.prog (cx []) 20000 (eW7).1 (eW7).2.1 h0) = true := by kernel_rfl
theorem runW8 : pureOk 1000 (eW8).2.2 (call Tryz.prog (cx [eW7]) 20000 (eW8).1 (eW8).2.1 h0) = true := by kernel_rfl
theorem runW9 : pureOk 1000 (eW9).2.2 (call Tryz.prog (cx [eW8]) 20000 (eW9).1 (eW9).2.1 h0) = true := by kernel_rfl
theorem runW10 : pureOk 1000 (eW10).2.2 (call Tryz.prog (cx [eW2]) 20000 (eW10).1 (eW10).2.1 h0) = true := by kernel_rfl
theorem runW11 : pureOk 1000 (eW11).2.2 (call Tryz.prog (cx []) 20000 (eW11).1 (eW11).2.1 h0) = true := by kernel_rfl
theorem runW12 : pureOk 1000 (eW12).2.2 (call Tryz.prog (cx []) 20000 (eW12).1 (eW12).2.1 h0) = true := by kernel_rfl
theorem runW13 : pureOk 1000 (eW13).2.2 (call Tryz.prog (cx [eW5]) 20000 (eW13).1 (eW13).2.1 h0) = true := by kernel_rfl
theorem runW14 : pureOk 1000 (eW14).2.2 (call Tryz.prog (cx []) 20000 (eW14).1 (eW14).2.1 h0) = true := by kernel_rfl
theorem runW15 : pureOk 1000 (eW15).2.2 (call Tryz.prog (cx []) 20000 (eW15).1 (eW15).2.1 h0) = true := by kernel_rfl
theorem runW16 : pureOk 1000 (eW16).2.2 (call Tryz.prog (cx []) 20000 (eW16).1 (eW16).2.1 h0) = true := by kernel_rfl
theorem runW17 : pureOk 1000 (eW17).2.2 (call Tryz.prog (cx [eW5]) 20000 (eW17).1 (eW17).2.1 h0) = true := by kernel_rfl
theorem runW18 : pureOk 1000 (eW18).2.2 (call Tryz.prog (cx [eW8]) 20000 (eW18).1 (eW18).2.1 h0) = true := by kernel_rfl
theorem runW19 : pureOk 1000 (eW19).2.2 (call Tryz.prog (cx []) 20000 (eW19).1 (eW19).2.1 h0) = true := by kernel_rfl
theorem runW20 : pureOk 1000 (eW20).2.2 (call Tryz.prog (cx []) 20000 (eW20).1 (eW20).2.1 h0) = true := by kernel_rfl
theorem runW21 : pureOk 1000 (eW21).2.2 (call Tryz.prog (cx [eW2]) 20000 (eW21).1 (eW21).2.1 h0) = true := by kernel_rfl
theorem runW22 : pureOk 1000 (eW22).2.2 (call Tryz.prog (cx [eW8]) 20000 (eW22).1 (eW22).2.1 h0) = true := by kernel_rfl
theorem runW23 : pureOk 1000 (eW23).2.2 (call Tryz.prog (cx []) 20000 (eW23).1 (eW23).2.1 h0) = true := by kernel_rfl
theorem runW24 : pureOk 1000 (eW24).2.2 (call Tryz.prog (cx [eW23]) 20000 (eW24).1 (eW24).2.1 h0) = true := by kernel_rfl
theorem runW25 : pureOk 1000 (eW25).2.2 (call Tryz.prog (cx [eW24]) 20000 (eW25).1 (eW25).2.1 h0) = true := by kernel_rfl
theorem runW26 : pureOk 1000 (eW26).2.2 (call Tryz.prog (cx [eW16]) 20000 (eW26).1 (eW26).2.1 h0) = true := by kernel_rfl
theorem runW27 : pureOk 1000 (eW27).2.2 (call Tryz.prog (cx [eW26]) 20000 (eW27).1 (eW27).2.1 h0) = true := by kernel_rfl
theorem runW28 : pureOk 1000 (eW28).2.2 (call Tryz.prog (cx []) 20000 (eW28).1 (eW28).2.1 h0) = true := by kernel_rfl
theorem runW29 : pureOk 1000 (eW29).2.2 (call Tryz.prog (cx [eW28]) 20000 (eW29).1 (eW29).2.1 h0) = true := by kernel_rfl
theorem runW30 : pureOk 1000 (eW30).2.2 (call Tryz.prog (cx [eW29]) 20000 (eW30).1 (eW30).2.1 h0) = true := by kernel_rfl
theorem runW31 : pureOk 1000 (eW31).2.2 (call Tryz.prog (cx [eW26]) 20000 (eW31).1 (eW31).2.1 h0) = true := by kernel_rfl
theorem runW32 : pureOk 1000 (eW32).2.2 (call Tryz.prog (cx []) 20000 (eW32).1 (eW32).2.1 h0) = true := by kernel_rfl
theorem runW33 : pureOk 1000 (eW33).2.2 (call Tryz.prog (cx [eW32]) 20000 (eW33).1 (eW33).2.1 h0) = true := by kernel_rfl
theorem runW34 : pureOk 1000 (eW34).2.2 (call Tryz.prog (cx [eW33]) 20000 (eW34).1 (eW34).2.1 h0) = true := by kernel_rfl
theorem runW35 : pureOk 1000 (eW35).2.2 (call Tryz.prog (cx [eW26]) 20000 (eW35).1 (eW35).2.1 h0) = true := by kernel_rfl
theorem runW36 : pureOk 1000 (eW36).2.2 (call Tryz.prog (cx []) 20000 (eW36).1 (eW36).2.1 h0) = true := by kernel_rfl
theorem runW37 : pureOk 1000 (eW37).2.2 (call Tryz.prog (cx []) 20000 (eW37).1 (eW37).2.1 h0) = true := by kernel_rfl
theorem runW38 : pureOk 1000 (eW38).2.2 (call Tryz.prog (cx [eW5]) 20000 (eW38).1 (eW38).2.1 h0) = true := by kernel_rfl
theorem runW39 : pureOk 1000 (eW39).2.2 (call Tryz.prog (cx []) 20000 (eW39).1 (eW39).2.1 h0) = true := by kernel_rfl
theorem runW40 : pureOk 1000 (eW40).2.2 (call Tryz.prog (cx []) 20000 (eW40).1 (eW40).2.1 h0) = true := by kernel_rfl
theorem runW41 : pureOk 1000 (eW41).2.2 (call Tryz.prog (cx []) 20000 (eW41).1 (eW41).2.1 h0) = true := by kernel_rfl
theorem runW42 : pureOk 1000 (eW42).2.2 (call Tryz.prog (cx []) 20000 (eW42).1 (eW42).2.1 h0) = true := by kernel_rfl
theorem runW43 : pureOk 1000 (eW43).2.2 (call Tryz.prog (cx []) 20000 (eW43).1 (eW43).2.1 h0) = true := by kernel_rfl
theorem runW44 : pureOk 1000 (eW44).2.2 (call Tryz.prog (cx [eW43]) 20000 (eW44).1 (eW44).2.1 h0) = true := by kernel_rfl
theorem runW45 : pureOk 1000 (eW45).2.2 (call Tryz.prog (cx [eW44]) 20000 (eW45).1 (eW45).2.1 h0) = true := by kernel_rfl
theorem runW46 : pureOk 1000 (eW46).2.2 (call Tryz.prog (cx []) 20000 (eW46).1 (eW46).2.1 h0) = true := by kernel_rfl
theorem runW47 : pureOk 1000 (eW47).2.2 (call Tryz.prog (cx []) 20000 (eW47).1 (eW47).2.1 h0) = true := by kernel_rfl
theorem runW48 : pureOk 1000 (eW48).2.2 (call Tryz.prog (cx [eW0, eW1, eW3, eW6, eW9, eW10, eW11, eW12, eW13, eW14, eW15, eW16, eW17, eW18, eW19, eW20, eW21, eW22, eW25, eW27, eW30, eW31, eW34, eW35, eW36, eW37, eW38, eW39, eW40, eW41, eW42, eW45, eW46, eW47]) 20000 (eW48).1 (eW48).2.1 h0) = true := by kernel_rfl
theorem runW49 : pureOk 1000 (eW49).2.2 (call Tryz.prog (cx []) 20000 (eW49).1 (eW49).2.1 h0) = true := by kernel_rfl
end Go.Proofs.YtnpknclpnogagaaGreatDoor
