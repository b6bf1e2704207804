/- The machine's side of FnExactSchemaPrint, written by wip/tools/hyb.py of this repo: each Go function as a plain Lean function, and the proof that the call comes to just its answer. No condition. -/
import Derived.Test.YtbmcjgkppjnafaaPFnExactSchemaPrintx0
import Derived.Test.YtbmcjgkppjnafaaPFnExactSchemaPrintx1
import Derived.Test.YtbmcjgkppjnafaaPFnExactSchemaPrintx2
import Derived.Test.YtbmcjgkppjnafaaPFnExactSchemaPrintx3
import Derived.Test.YtbmcjgkppjnafaaPFnExactSchemaPrintx4
import Derived.Test.YtbmcjgkppjnafaaPFnExactSchemaPrintx5
namespace Go.Proofs.Ytbmcjgkppjnafaa.PFnExactSchemaPrint
open Go.RowKit Go.Proofs.YtbmcjgkppjnafaaW.PrintWords Go.Proofs.YtbmcjgkppjnafaaW.PrintLast Go.Proofs.YtbmcjgkppjnafaaW.PrintMore Go.Proofs.YtbmcjgkppjnafaaW.PrintMore2
attribute [local go_sem] max2_int min2_int max_two min_two max_three min_three max_four min_four   -- for this text's walks alone
set_option linter.unusedVariables false
set_option linter.unusedSimpArgs false

end Go.Proofs.Ytbmcjgkppjnafaa.PFnExactSchemaPrint
