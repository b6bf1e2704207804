/- The machine's side of FnDelta, written by wip/tools/hyb.py of this repo: each Go function as a plain Lean function, and the proof that the call comes to just its answer. No condition. -/
import Derived.Test.YtgcanbeckamjeaaPFnDeltax0
import Derived.Test.YtgcanbeckamjeaaPFnDeltax1
import Derived.Test.YtgcanbeckamjeaaPFnDeltax2
import Derived.Test.YtgcanbeckamjeaaPFnDeltax3
import Derived.Test.YtgcanbeckamjeaaPFnDeltax4
import Derived.Test.YtgcanbeckamjeaaPFnDeltax5
import Derived.Test.YtgcanbeckamjeaaPFnDeltax6
import Derived.Test.YtgcanbeckamjeaaPFnDeltax7
import Derived.Test.YtgcanbeckamjeaaPFnDeltax8
import Derived.Test.YtgcanbeckamjeaaPFnDeltax9
import Derived.Test.YtgcanbeckamjeaaPFnDeltax10
namespace Go.Proofs.Ytgcanbeckamjeaa.PFnDelta
open Go.RowKit Go.Proofs.YtgcanbeckamjeaaW.PrintWords Go.Proofs.YtgcanbeckamjeaaW.PrintLast Go.Proofs.YtgcanbeckamjeaaW.PrintMore Go.Proofs.YtgcanbeckamjeaaW.PrintMore2
attribute [local go_sem] max2_int min2_int max_two min_two max_three min_three max_four min_four   -- for this text's walks alone
set_option linter.unusedVariables false
set_option linter.unusedSimpArgs false

end Go.Proofs.Ytgcanbeckamjeaa.PFnDelta
