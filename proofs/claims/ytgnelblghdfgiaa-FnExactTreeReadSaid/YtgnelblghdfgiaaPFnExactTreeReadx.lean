/- The machine's side of FnExactTreeRead, written by wip/tools/hyb.py of this repo: each Go function as a plain Lean function, and the proof that the call comes to just its answer. No condition. -/
import Derived.Test.YtgnelblghdfgiaaPFnExactTreeReadx0
import Derived.Test.YtgnelblghdfgiaaPFnExactTreeReadx1
import Derived.Test.YtgnelblghdfgiaaPFnExactTreeReadx2
import Derived.Test.YtgnelblghdfgiaaPFnExactTreeReadx3
import Derived.Test.YtgnelblghdfgiaaPFnExactTreeReadx4
import Derived.Test.YtgnelblghdfgiaaPFnExactTreeReadx5
import Derived.Test.YtgnelblghdfgiaaPFnExactTreeReadx6
import Derived.Test.YtgnelblghdfgiaaPFnExactTreeReadx7
namespace Go.Proofs.Ytgnelblghdfgiaa.PFnExactTreeRead
open Go.RowKit Go.Proofs.YtgnelblghdfgiaaW.PrintWords Go.Proofs.YtgnelblghdfgiaaW.PrintLast Go.Proofs.YtgnelblghdfgiaaW.PrintMore Go.Proofs.YtgnelblghdfgiaaW.PrintMore2
attribute [local go_sem] max2_int min2_int max_two min_two max_three min_three max_four min_four   -- for this text's walks alone
set_option linter.unusedVariables false
set_option linter.unusedSimpArgs false

end Go.Proofs.Ytgnelblghdfgiaa.PFnExactTreeRead
