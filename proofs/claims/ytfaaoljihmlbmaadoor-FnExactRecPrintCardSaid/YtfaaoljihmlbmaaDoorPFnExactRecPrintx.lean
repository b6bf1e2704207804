/- The machine's side of FnExactRecPrint, written by wip/tools/hyb.py of this repo: each Go function as a plain Lean function, and the proof that the call comes to just its answer. No condition. -/
import Derived.Test.YtfaaoljihmlbmaaDoorPFnExactRecPrintx0
import Derived.Test.YtfaaoljihmlbmaaDoorPFnExactRecPrintx1
import Derived.Test.YtfaaoljihmlbmaaDoorPFnExactRecPrintx2
namespace Go.Proofs.YtfaaoljihmlbmaaDoor.PFnExactRecPrint
open Go.RowKit Go.Proofs.YtfaaoljihmlbmaaDoorW.PrintWords Go.Proofs.YtfaaoljihmlbmaaDoorW.PrintLast Go.Proofs.YtfaaoljihmlbmaaDoorW.PrintMore Go.Proofs.YtfaaoljihmlbmaaDoorW.PrintMore2
attribute [local go_sem] max2_int min2_int max_two min_two max_three min_three max_four min_four   -- for this text's walks alone
set_option linter.unusedVariables false
set_option linter.unusedSimpArgs false

end Go.Proofs.YtfaaoljihmlbmaaDoor.PFnExactRecPrint
