/- The machine's side of FnDict, written by wip/tools/hyb.py of this repo: each Go function as a plain Lean function, and the proof that the call comes to just its answer. No condition. -/
import Derived.Test.YtgbhjjhnkiagfaaPFnDictx0
import Derived.Test.YtgbhjjhnkiagfaaPFnDictx1
import Derived.Test.YtgbhjjhnkiagfaaPFnDictx2
import Derived.Test.YtgbhjjhnkiagfaaPFnDictx3
import Derived.Test.YtgbhjjhnkiagfaaPFnDictx4
import Derived.Test.YtgbhjjhnkiagfaaPFnDictx5
import Derived.Test.YtgbhjjhnkiagfaaPFnDictx6
import Derived.Test.YtgbhjjhnkiagfaaPFnDictx7
import Derived.Test.YtgbhjjhnkiagfaaPFnDictx8
import Derived.Test.YtgbhjjhnkiagfaaPFnDictx9
import Derived.Test.YtgbhjjhnkiagfaaPFnDictx10
import Derived.Test.YtgbhjjhnkiagfaaPFnDictx11
namespace Go.Proofs.Ytgbhjjhnkiagfaa.PFnDict
open Go.RowKit Go.Proofs.YtgbhjjhnkiagfaaW.PrintWords Go.Proofs.YtgbhjjhnkiagfaaW.PrintLast Go.Proofs.YtgbhjjhnkiagfaaW.PrintMore Go.Proofs.YtgbhjjhnkiagfaaW.PrintMore2
attribute [local go_sem] max2_int min2_int max_two min_two max_three min_three max_four min_four   -- for this text's walks alone
set_option linter.unusedVariables false
set_option linter.unusedSimpArgs false

end Go.Proofs.Ytgbhjjhnkiagfaa.PFnDict
