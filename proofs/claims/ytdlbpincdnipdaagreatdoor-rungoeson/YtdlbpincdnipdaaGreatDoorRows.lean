/-
  NARROWER THAN 'FOR EVERY INPUT', by the rows' own cells (each row's printed sentence says how): RunGoes: laid · RunOn: laid · RunNames: laid · RunMore: laid · RunGoesOn: laid.
  DERIVED. THE GIVEN ROWS OF THIS SEAT. 5 by the template 'for every input the law returns true; each argument reads behind the call as it read before'; 0 by the template 'total and deterministic' (their statements: YtdlbpincdnipdaaGreatDoorTotals.lean).
  GIVEN WITH THE SEED: the statements are not yours to turn. If you find one false, say at which input.
  Laid BY PROGRAM, IN A SANDBOX (cutbox-rows.mjs): the forced cells as the released guide's own fill.sh prints them over the translation dc3e89054a55c2b6… (all of the seat's roots in one cut). By AI agents, Wed Nov 11 2026. No macro, syntax, notation, axiom, sorry.
-/
import Derived.Test.YtdlbpincdnipdaaGreatDoorChecked
import GoSem.Claim
import GoSem.ClaimJoined
import GoSem.ClaimMapViews
import Derived.JoinedTies
import Derived.KernelRfl
namespace Go.Proofs.YtdlbpincdnipdaaGreatDoor
/- THE CELL 'sum', in the pinned program and in every row, IS THE sha256 OF THE DUMP (.gsa) THAT YtdlbpincdnipdaaGreatDoorProg.lean LOADS. Nothing in Lean hashes anything: it is a label: what it is worth is what the hold of that sum in a sandbox is worth. -/
noncomputable def Tryz.pinned : Pinned := { name := "ytdlbpincdnipdaagreatdoor", sum := "dc3e89054a55c2b6f054281df626525c1da82d83a8534d5b053862b78bd8fe2e", checked := Tryz.checked }
namespace Rows
def none {H : Type} : Left H := { results := [], args := [] }

/- WHAT THE LISTED PACKAGE-LEVEL VARIABLES READ AS WHEN THE CALL BEGINS. Each datum BY PROGRAM (the guide's laid-datum.mjs) off the statement by which the dump's own 'gosem.cut.vars' lays the variable. In a bare row this is a premise. The card (YtdlbpincdnipdaaGreatDoorCards.lean) ties it to the program's text. -/
def laid_errors_errorType {H : Type} : DataW H := .iface "internal/reflectlite.rtype" (.agg [.ptr (.lit (.string [101, 114, 114, 111, 114]))])
def laid_fescue_shape_table {H : Type} : DataW H := .agg [.agg [.lit (.bool false), .lit (.bool false), .lit (.bool false), .lit (.bool false), .lit (.bool false), .lit (.bool false)], .agg [.lit (.bool false), .lit (.bool false), .lit (.bool true), .lit (.bool false), .lit (.bool false), .lit (.bool true)], .agg [.lit (.bool false), .lit (.bool false), .lit (.bool false), .lit (.bool false), .lit (.bool false), .lit (.bool true)], .agg [.lit (.bool false), .lit (.bool false), .lit (.bool true), .lit (.bool false), .lit (.bool false), .lit (.bool true)], .agg [.lit (.bool true), .lit (.bool true), .lit (.bool false), .lit (.bool false), .lit (.bool false), .lit (.bool true)], .agg [.lit (.bool true), .lit (.bool true), .lit (.bool false), .lit (.bool false), .lit (.bool false), .lit (.bool true)], .agg [.lit (.bool true), .lit (.bool true), .lit (.bool false), .lit (.bool false), .lit (.bool false), .lit (.bool true)], .agg [.lit (.bool true), .lit (.bool true), .lit (.bool false), .lit (.bool false), .lit (.bool false), .lit (.bool true)], .agg [.lit (.bool true), .lit (.bool true), .lit (.bool false), .lit (.bool false), .lit (.bool false), .lit (.bool true)], .agg [.lit (.bool true), .lit (.bool true), .lit (.bool false), .lit (.bool false), .lit (.bool false), .lit (.bool true)], .agg [.lit (.bool true), .lit (.bool true), .lit (.bool false), .lit (.bool false), .lit (.bool false), .lit (.bool true)], .agg [.lit (.bool false), .lit (.bool false), .lit (.bool false), .lit (.bool false), .lit (.bool false), .lit (.bool true)], .agg [.lit (.bool false), .lit (.bool false), .lit (.bool false), .lit (.bool false), .lit (.bool false), .lit (.bool true)], .agg [.lit (.bool true), .lit (.bool false), .lit (.bool false), .lit (.bool false), .lit (.bool false), .lit (.bool false)], .agg [.lit (.bool true), .lit (.bool false), .lit (.bool true), .lit (.bool false), .lit (.bool false), .lit (.bool true)], .agg [.lit (.bool true), .lit (.bool true), .lit (.bool false), .lit (.bool false), .lit (.bool false), .lit (.bool true)], .agg [.lit (.bool true), .lit (.bool false), .lit (.bool false), .lit (.bool false), .lit (.bool false), .lit (.bool true)], .agg [.lit (.bool true), .lit (.bool true), .lit (.bool false), .lit (.bool false), .lit (.bool false), .lit (.bool false)], .agg [.lit (.bool false), .lit (.bool false), .lit (.bool true), .lit (.bool true), .lit (.bool false), .lit (.bool true)], .agg [.lit (.bool true), .lit (.bool false), .lit (.bool false), .lit (.bool true), .lit (.bool false), .lit (.bool true)], .agg [.lit (.bool false), .lit (.bool false), .lit (.bool false), .lit (.bool false), .lit (.bool false), .lit (.bool true)], .agg [.lit (.bool true), .lit (.bool false), .lit (.bool false), .lit (.bool false), .lit (.bool false), .lit (.bool false)], .agg [.lit (.bool false), .lit (.bool false), .lit (.bool false), .lit (.bool true), .lit (.bool true), .lit (.bool true)]]

/-- 'fescuelaw17.RunGoes': WHATEVER THE INPUT: true; the input reads as it did. -/
def runGoesSpec : ChangeSpec := { name := "runGoes", fn := fun _ => fun
  | [d1, d2, d3] => { results := [.lit (.bool true)], args := [d1, d2, d3] }
  | _ => none }
def runGoesRow : OpenClaim := { program := "ytdlbpincdnipdaagreatdoor", sum := "dc3e89054a55c2b6f054281df626525c1da82d83a8534d5b053862b78bd8fe2e", func := "fescue/fescuelaw17.RunGoes", spec := "runGoes", inPlace := ["internal/reflectlite.TypeOf", "internal/reflectlite.ValueOf", "(internal/reflectlite.Value).Type", "(internal/reflectlite.Value).IsNil", "(internal/reflectlite.Value).Elem", "(internal/reflectlite.Value).Set"], unfollowed := true, recurses := true, named := ["fescue/shape.table", "errors.errorType"], apart := false, laid := [("errors.errorType", laid_errors_errorType), ("fescue/shape.table", laid_fescue_shape_table)] }
def RunGoesSaid : Prop := runGoesRow.holds Tryz.pinned (OpenSpec.ofChange runGoesSpec)

/-- ITS FALSE NEIGHBOUR: 'it returns false'. Refute it at one input. -/
def runGoesWrong : ChangeSpec := { name := "runGoes", fn := fun _ => fun
  | [d1, d2, d3] => { results := [.lit (.bool false)], args := [d1, d2, d3] }
  | _ => none }
def RunGoesWrongFalsely : Prop := runGoesRow.holds Tryz.pinned (OpenSpec.ofChange runGoesWrong)

/-- 'fescuelaw17.RunOn': WHATEVER THE INPUT: true; the input reads as it did. -/
def runOnSpec : ChangeSpec := { name := "runOn", fn := fun _ => fun
  | [d1, d2, d3] => { results := [.lit (.bool true)], args := [d1, d2, d3] }
  | _ => none }
def runOnRow : OpenClaim := { program := "ytdlbpincdnipdaagreatdoor", sum := "dc3e89054a55c2b6f054281df626525c1da82d83a8534d5b053862b78bd8fe2e", func := "fescue/fescuelaw17.RunOn", spec := "runOn", inPlace := ["internal/reflectlite.TypeOf", "internal/reflectlite.ValueOf", "(internal/reflectlite.Value).Type", "(internal/reflectlite.Value).IsNil", "(internal/reflectlite.Value).Elem", "(internal/reflectlite.Value).Set"], unfollowed := true, recurses := true, named := ["fescue/shape.table", "errors.errorType"], apart := false, laid := [("errors.errorType", laid_errors_errorType), ("fescue/shape.table", laid_fescue_shape_table)] }
def RunOnSaid : Prop := runOnRow.holds Tryz.pinned (OpenSpec.ofChange runOnSpec)

/-- ITS FALSE NEIGHBOUR: 'it returns false'. Refute it at one input. -/
def runOnWrong : ChangeSpec := { name := "runOn", fn := fun _ => fun
  | [d1, d2, d3] => { results := [.lit (.bool false)], args := [d1, d2, d3] }
  | _ => none }
def RunOnWrongFalsely : Prop := runOnRow.holds Tryz.pinned (OpenSpec.ofChange runOnWrong)

/-- 'fescuelaw17.RunNames': WHATEVER THE INPUT: true; the input reads as it did. -/
def runNamesSpec : ChangeSpec := { name := "runNames", fn := fun _ => fun
  | [] => { results := [.lit (.bool true)], args := [] }
  | _ => none }
def runNamesRow : OpenClaim := { program := "ytdlbpincdnipdaagreatdoor", sum := "dc3e89054a55c2b6f054281df626525c1da82d83a8534d5b053862b78bd8fe2e", func := "fescue/fescuelaw17.RunNames", spec := "runNames", inPlace := ["internal/reflectlite.TypeOf", "internal/reflectlite.ValueOf", "(internal/reflectlite.Value).Type", "(internal/reflectlite.Value).IsNil", "(internal/reflectlite.Value).Elem", "(internal/reflectlite.Value).Set"], unfollowed := true, recurses := true, named := ["fescue/shape.table", "errors.errorType"], apart := false, laid := [("errors.errorType", laid_errors_errorType), ("fescue/shape.table", laid_fescue_shape_table)] }
def RunNamesSaid : Prop := runNamesRow.holds Tryz.pinned (OpenSpec.ofChange runNamesSpec)

/-- ITS FALSE NEIGHBOUR: 'it returns false'. Refute it at one input. -/
def runNamesWrong : ChangeSpec := { name := "runNames", fn := fun _ => fun
  | [] => { results := [.lit (.bool false)], args := [] }
  | _ => none }
def RunNamesWrongFalsely : Prop := runNamesRow.holds Tryz.pinned (OpenSpec.ofChange runNamesWrong)

/-- 'fescuelaw17.RunMore': WHATEVER THE INPUT: true; the input reads as it did. -/
def runMoreSpec : ChangeSpec := { name := "runMore", fn := fun _ => fun
  | [d1, d2, d3, d4] => { results := [.lit (.bool true)], args := [d1, d2, d3, d4] }
  | _ => none }
def runMoreRow : OpenClaim := { program := "ytdlbpincdnipdaagreatdoor", sum := "dc3e89054a55c2b6f054281df626525c1da82d83a8534d5b053862b78bd8fe2e", func := "fescue/fescuelaw17.RunMore", spec := "runMore", inPlace := ["internal/reflectlite.TypeOf", "internal/reflectlite.ValueOf", "(internal/reflectlite.Value).Type", "(internal/reflectlite.Value).IsNil", "(internal/reflectlite.Value).Elem", "(internal/reflectlite.Value).Set"], unfollowed := true, recurses := true, named := ["fescue/shape.table", "errors.errorType"], apart := false, laid := [("errors.errorType", laid_errors_errorType), ("fescue/shape.table", laid_fescue_shape_table)] }
def RunMoreSaid : Prop := runMoreRow.holds Tryz.pinned (OpenSpec.ofChange runMoreSpec)

/-- ITS FALSE NEIGHBOUR: 'it returns false'. Refute it at one input. -/
def runMoreWrong : ChangeSpec := { name := "runMore", fn := fun _ => fun
  | [d1, d2, d3, d4] => { results := [.lit (.bool false)], args := [d1, d2, d3, d4] }
  | _ => none }
def RunMoreWrongFalsely : Prop := runMoreRow.holds Tryz.pinned (OpenSpec.ofChange runMoreWrong)

/-- 'fescuelaw17.RunGoesOn': WHATEVER THE INPUT: true; the input reads as it did. -/
def runGoesOnSpec : ChangeSpec := { name := "runGoesOn", fn := fun _ => fun
  | [d1, d2, d3] => { results := [.lit (.bool true)], args := [d1, d2, d3] }
  | _ => none }
def runGoesOnRow : OpenClaim := { program := "ytdlbpincdnipdaagreatdoor", sum := "dc3e89054a55c2b6f054281df626525c1da82d83a8534d5b053862b78bd8fe2e", func := "fescue/fescuelaw17.RunGoesOn", spec := "runGoesOn", inPlace := ["internal/reflectlite.TypeOf", "internal/reflectlite.ValueOf", "(internal/reflectlite.Value).Type", "(internal/reflectlite.Value).IsNil", "(internal/reflectlite.Value).Elem", "(internal/reflectlite.Value).Set"], unfollowed := true, recurses := true, named := ["fescue/shape.table", "errors.errorType"], apart := false, laid := [("errors.errorType", laid_errors_errorType), ("fescue/shape.table", laid_fescue_shape_table)] }
def RunGoesOnSaid : Prop := runGoesOnRow.holds Tryz.pinned (OpenSpec.ofChange runGoesOnSpec)

/-- ITS FALSE NEIGHBOUR: 'it returns false'. Refute it at one input. -/
def runGoesOnWrong : ChangeSpec := { name := "runGoesOn", fn := fun _ => fun
  | [d1, d2, d3] => { results := [.lit (.bool false)], args := [d1, d2, d3] }
  | _ => none }
def RunGoesOnWrongFalsely : Prop := runGoesOnRow.holds Tryz.pinned (OpenSpec.ofChange runGoesOnWrong)

/- THE SECOND FORM. 'bulk': how many values and letters a reading holds, each counted each time it is reached (what is shared counts as often as it is met; a slice's spare places count too). A statement '..UptoSaid' is the law's where the arguments, and the package variables that the reading takes, are together of bulk at most 1048576: NARROWER than '..Said'. Prove '..Said' where nothing that the law and all that it calls make is longer than what came in: it says more and counts as full. Else prove '..UptoSaid'. A law counts once. -/
mutual
def uptoBulk {H : Type} : DataW H → Nat
  | .lit (.string bytes) => bytes.length + 1
  | .lit _ => 1
  | .nil => 1
  | .ptr d => uptoBulk d + 1
  | .slice elems spare => uptoBulkAll elems + uptoBulkAll spare + 1
  | .agg parts => uptoBulkAll parts + 1
  | .iface _ d => uptoBulk d + 1
  | .map entries => uptoBulkEntries entries + 1
  | .held _ => 1
def uptoBulkAll {H : Type} : List (DataW H) → Nat
  | [] => 0
  | d :: r => uptoBulk d + uptoBulkAll r
def uptoBulkEntries {H : Type} : List (Lit × DataW H) → Nat
  | [] => 0
  | x :: r => uptoBulkEntry x + uptoBulkEntries r
def uptoBulkEntry {H : Type} : Lit × DataW H → Nat
  | (.string bytes, d) => bytes.length + uptoBulk d + 1
  | (_, d) => uptoBulk d + 1
 end
def uptoSmall : (H : Type) → List (DataW H) → Bool := fun _ ds => decide (uptoBulkAll ds ≤ 1048576)
def OpenSpec.upto (s : _root_.Go.ChangeSpec) : _root_.Go.OpenSpec := { _root_.Go.OpenSpec.ofChange s with cond := some uptoSmall }

/-- 'fescuelaw17.RunGoes', WHERE WHAT IT READS IS OF BULK AT MOST 1048576: true; the input reads as it did. -/
def runGoesUptoRow : OpenClaim := { program := "ytdlbpincdnipdaagreatdoor", sum := "dc3e89054a55c2b6f054281df626525c1da82d83a8534d5b053862b78bd8fe2e", func := "fescue/fescuelaw17.RunGoes", spec := "runGoes", inPlace := ["internal/reflectlite.TypeOf", "internal/reflectlite.ValueOf", "(internal/reflectlite.Value).Type", "(internal/reflectlite.Value).IsNil", "(internal/reflectlite.Value).Elem", "(internal/reflectlite.Value).Set"], unfollowed := true, recurses := true, named := ["fescue/shape.table", "errors.errorType"], apart := false, laid := [("errors.errorType", laid_errors_errorType), ("fescue/shape.table", laid_fescue_shape_table)], narrowed := true }
def RunGoesUptoSaid : Prop := runGoesUptoRow.holds Tryz.pinned (OpenSpec.upto runGoesSpec)

/-- 'fescuelaw17.RunOn', WHERE WHAT IT READS IS OF BULK AT MOST 1048576: true; the input reads as it did. -/
def runOnUptoRow : OpenClaim := { program := "ytdlbpincdnipdaagreatdoor", sum := "dc3e89054a55c2b6f054281df626525c1da82d83a8534d5b053862b78bd8fe2e", func := "fescue/fescuelaw17.RunOn", spec := "runOn", inPlace := ["internal/reflectlite.TypeOf", "internal/reflectlite.ValueOf", "(internal/reflectlite.Value).Type", "(internal/reflectlite.Value).IsNil", "(internal/reflectlite.Value).Elem", "(internal/reflectlite.Value).Set"], unfollowed := true, recurses := true, named := ["fescue/shape.table", "errors.errorType"], apart := false, laid := [("errors.errorType", laid_errors_errorType), ("fescue/shape.table", laid_fescue_shape_table)], narrowed := true }
def RunOnUptoSaid : Prop := runOnUptoRow.holds Tryz.pinned (OpenSpec.upto runOnSpec)

/-- 'fescuelaw17.RunNames', WHERE WHAT IT READS IS OF BULK AT MOST 1048576: true; the input reads as it did. -/
def runNamesUptoRow : OpenClaim := { program := "ytdlbpincdnipdaagreatdoor", sum := "dc3e89054a55c2b6f054281df626525c1da82d83a8534d5b053862b78bd8fe2e", func := "fescue/fescuelaw17.RunNames", spec := "runNames", inPlace := ["internal/reflectlite.TypeOf", "internal/reflectlite.ValueOf", "(internal/reflectlite.Value).Type", "(internal/reflectlite.Value).IsNil", "(internal/reflectlite.Value).Elem", "(internal/reflectlite.Value).Set"], unfollowed := true, recurses := true, named := ["fescue/shape.table", "errors.errorType"], apart := false, laid := [("errors.errorType", laid_errors_errorType), ("fescue/shape.table", laid_fescue_shape_table)], narrowed := true }
def RunNamesUptoSaid : Prop := runNamesUptoRow.holds Tryz.pinned (OpenSpec.upto runNamesSpec)

/-- 'fescuelaw17.RunMore', WHERE WHAT IT READS IS OF BULK AT MOST 1048576: true; the input reads as it did. -/
def runMoreUptoRow : OpenClaim := { program := "ytdlbpincdnipdaagreatdoor", sum := "dc3e89054a55c2b6f054281df626525c1da82d83a8534d5b053862b78bd8fe2e", func := "fescue/fescuelaw17.RunMore", spec := "runMore", inPlace := ["internal/reflectlite.TypeOf", "internal/reflectlite.ValueOf", "(internal/reflectlite.Value).Type", "(internal/reflectlite.Value).IsNil", "(internal/reflectlite.Value).Elem", "(internal/reflectlite.Value).Set"], unfollowed := true, recurses := true, named := ["fescue/shape.table", "errors.errorType"], apart := false, laid := [("errors.errorType", laid_errors_errorType), ("fescue/shape.table", laid_fescue_shape_table)], narrowed := true }
def RunMoreUptoSaid : Prop := runMoreUptoRow.holds Tryz.pinned (OpenSpec.upto runMoreSpec)

/-- 'fescuelaw17.RunGoesOn', WHERE WHAT IT READS IS OF BULK AT MOST 1048576: true; the input reads as it did. -/
def runGoesOnUptoRow : OpenClaim := { program := "ytdlbpincdnipdaagreatdoor", sum := "dc3e89054a55c2b6f054281df626525c1da82d83a8534d5b053862b78bd8fe2e", func := "fescue/fescuelaw17.RunGoesOn", spec := "runGoesOn", inPlace := ["internal/reflectlite.TypeOf", "internal/reflectlite.ValueOf", "(internal/reflectlite.Value).Type", "(internal/reflectlite.Value).IsNil", "(internal/reflectlite.Value).Elem", "(internal/reflectlite.Value).Set"], unfollowed := true, recurses := true, named := ["fescue/shape.table", "errors.errorType"], apart := false, laid := [("errors.errorType", laid_errors_errorType), ("fescue/shape.table", laid_fescue_shape_table)], narrowed := true }
def RunGoesOnUptoSaid : Prop := runGoesOnUptoRow.holds Tryz.pinned (OpenSpec.upto runGoesOnSpec)

end Rows
end Go.Proofs.YtdlbpincdnipdaaGreatDoor
