/- RunNames, part B: the run, as the abstract machine reckons it. -/
import Derived.Test.YtdlbpincdnipdaaGreatDoorNamesA
namespace Go.Proofs.YtdlbpincdnipdaaGreatDoor
open Go.ChangeShapes Go.WideShapes Go.ChangeAt Go.WideMaps Go.WideElems Go.RowKit Go.Ax
theorem run_names : okTrue (call Tryz.prog (cx tab3) 10000 5 [] h0) = true := by kernel_rfl

end Go.Proofs.YtdlbpincdnipdaaGreatDoor
