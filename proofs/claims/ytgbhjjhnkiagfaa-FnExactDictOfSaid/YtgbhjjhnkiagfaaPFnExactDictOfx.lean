/- The machine's side of FnExactDictOf, written by wip/tools/hyb.py of this repo: each Go function as a plain Lean function, and the proof that the call comes to just its answer. No condition. -/
import Derived.Test.YtgbhjjhnkiagfaaPFnExactDictOfx0
import Derived.Test.YtgbhjjhnkiagfaaPFnExactDictOfx1
import Derived.Test.YtgbhjjhnkiagfaaPFnExactDictOfx2
import Derived.Test.YtgbhjjhnkiagfaaPFnExactDictOfx3
import Derived.Test.YtgbhjjhnkiagfaaPFnExactDictOfx4
import Derived.Test.YtgbhjjhnkiagfaaPFnExactDictOfx5
import Derived.Test.YtgbhjjhnkiagfaaPFnExactDictOfx6
namespace Go.Proofs.Ytgbhjjhnkiagfaa.PFnExactDictOf
open Go.RowKit Go.Proofs.YtgbhjjhnkiagfaaW.PrintWords Go.Proofs.YtgbhjjhnkiagfaaW.PrintLast Go.Proofs.YtgbhjjhnkiagfaaW.PrintMore Go.Proofs.YtgbhjjhnkiagfaaW.PrintMore2
attribute [local go_sem] max2_int min2_int max_two min_two max_three min_three max_four min_four   -- for this text's walks alone
set_option linter.unusedVariables false
set_option linter.unusedSimpArgs false

end Go.Proofs.Ytgbhjjhnkiagfaa.PFnExactDictOf
