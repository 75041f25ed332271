/- PromoteNames: calls, as the abstract machine reckons them, part 22. -/
import Derived.Test.YtodpcmfblpmheaaGreatDoorPV
namespace Go.Proofs.YtodpcmfblpmheaaGreatDoor
open Go.Ax
theorem runP308 : pureOk 1000 (eP308).2.2 (call Tryz.prog (cx [eP40, eP64, eP105, eP147, eP210, eP211, eP212, eP215, eP216, eP217, eP218, eP219, eP234, eP255, eP256, eP257, eP258, eP259, eP260, eP261, eP262, eP263, eP264, eP265, eP266, eP267, eP268, eP269, eP270, eP271, eP272, eP273, eP274, eP275, eP276, eP277, eP278, eP279, eP280, eP281, eP282, eP283, eP284, eP285, eP286, eP287, eP288, eP289, eP290, eP291, eP292, eP293, eP294, eP295, eP296, eP297, eP298, eP299, eP300, eP301, eP302, eP303, eP304, eP305, eP306, eP307]) 20000 (eP308).1 (eP308).2.1 h0) = true := by kernel_rfl
theorem runP309 : pureOk 1000 (eP309).2.2 (call Tryz.prog (cx [eP59, eP205, eP220, eP226]) 20000 (eP309).1 (eP309).2.1 h0) = true := by kernel_rfl
theorem runP310 : pureOk 1000 (eP310).2.2 (call Tryz.prog (cx [eP59, eP205, eP220, eP226]) 20000 (eP310).1 (eP310).2.1 h0) = true := by kernel_rfl
end Go.Proofs.YtodpcmfblpmheaaGreatDoor
