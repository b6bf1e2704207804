/- The machine's side of FnExactLengthRead, written by wip/tools/hyb.py of this repo: each Go function as a plain Lean function, and the proof that the call comes to just its answer. No condition. -/
import Derived.Test.YtgcanbeckamjeaaPFnExactLengthReadx0
import Derived.Test.YtgcanbeckamjeaaPFnExactLengthReadx1
import Derived.Test.YtgcanbeckamjeaaPFnExactLengthReadx2
import Derived.Test.YtgcanbeckamjeaaPFnExactLengthReadx3
import Derived.Test.YtgcanbeckamjeaaPFnExactLengthReadx4
import Derived.Test.YtgcanbeckamjeaaPFnExactLengthReadx5
import Derived.Test.YtgcanbeckamjeaaPFnExactLengthReadx6
import Derived.Test.YtgcanbeckamjeaaPFnExactLengthReadx7
import Derived.Test.YtgcanbeckamjeaaPFnExactLengthReadx8
import Derived.Test.YtgcanbeckamjeaaPFnExactLengthReadx9
namespace Go.Proofs.Ytgcanbeckamjeaa.PFnExactLengthRead
open Go.RowKit Go.Proofs.YtgcanbeckamjeaaW.PrintWords Go.Proofs.YtgcanbeckamjeaaW.PrintLast Go.Proofs.YtgcanbeckamjeaaW.PrintMore Go.Proofs.YtgcanbeckamjeaaW.PrintMore2
attribute [local go_sem] max2_int min2_int max_two min_two max_three min_three max_four min_four   -- for this text's walks alone
set_option linter.unusedVariables false
set_option linter.unusedSimpArgs false

end Go.Proofs.Ytgcanbeckamjeaa.PFnExactLengthRead
