/- The machine's side of FnExactFrontRead, written by wip/tools/hyb.py of this repo: each Go function as a plain Lean function, and the proof that the call comes to just its answer. No condition. -/
import Derived.Test.YtgcanbeckamjeaaPFnExactFrontReadx0
import Derived.Test.YtgcanbeckamjeaaPFnExactFrontReadx1
import Derived.Test.YtgcanbeckamjeaaPFnExactFrontReadx2
import Derived.Test.YtgcanbeckamjeaaPFnExactFrontReadx3
import Derived.Test.YtgcanbeckamjeaaPFnExactFrontReadx4
import Derived.Test.YtgcanbeckamjeaaPFnExactFrontReadx5
import Derived.Test.YtgcanbeckamjeaaPFnExactFrontReadx6
import Derived.Test.YtgcanbeckamjeaaPFnExactFrontReadx7
import Derived.Test.YtgcanbeckamjeaaPFnExactFrontReadx8
import Derived.Test.YtgcanbeckamjeaaPFnExactFrontReadx9
import Derived.Test.YtgcanbeckamjeaaPFnExactFrontReadx10
namespace Go.Proofs.Ytgcanbeckamjeaa.PFnExactFrontRead
open Go.RowKit Go.Proofs.YtgcanbeckamjeaaW.PrintWords Go.Proofs.YtgcanbeckamjeaaW.PrintLast Go.Proofs.YtgcanbeckamjeaaW.PrintMore Go.Proofs.YtgcanbeckamjeaaW.PrintMore2
attribute [local go_sem] max2_int min2_int max_two min_two max_three min_three max_four min_four   -- for this text's walks alone
set_option linter.unusedVariables false
set_option linter.unusedSimpArgs false

end Go.Proofs.Ytgcanbeckamjeaa.PFnExactFrontRead
