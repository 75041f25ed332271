/- RunGoesOn: the chapter's examples, as the abstract machine reckons them. -/
import Derived.Test.YtdlbpincdnipdaaGreatDoorNamesA
namespace Go.Proofs.YtdlbpincdnipdaaGreatDoor
open Go.ChangeShapes Go.WideShapes Go.ChangeAt Go.WideMaps Go.WideElems Go.RowKit Go.Ax
theorem run_alive : pureOk 100 (.bool true) (call Tryz.prog (cx tab3) 10000 18 [] h0) = true := by kernel_rfl
end Go.Proofs.YtdlbpincdnipdaaGreatDoor
