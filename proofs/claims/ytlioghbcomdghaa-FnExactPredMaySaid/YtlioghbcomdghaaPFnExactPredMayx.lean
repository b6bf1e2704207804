/- The machine's side of FnExactPredMay, written by wip/tools/hyb.py of this repo: each Go function as a plain Lean function, and the proof that the call comes to just its answer. No condition. -/
import Derived.Test.YtlioghbcomdghaaPFnExactPredMayx0
import Derived.Test.YtlioghbcomdghaaPFnExactPredMayx1
import Derived.Test.YtlioghbcomdghaaPFnExactPredMayx2
import Derived.Test.YtlioghbcomdghaaPFnExactPredMayx3
import Derived.Test.YtlioghbcomdghaaPFnExactPredMayx4
import Derived.Test.YtlioghbcomdghaaPFnExactPredMayx5
import Derived.Test.YtlioghbcomdghaaPFnExactPredMayx6
import Derived.Test.YtlioghbcomdghaaPFnExactPredMayx7
import Derived.Test.YtlioghbcomdghaaPFnExactPredMayx8
import Derived.Test.YtlioghbcomdghaaPFnExactPredMayx9
import Derived.Test.YtlioghbcomdghaaPFnExactPredMayx10
import Derived.Test.YtlioghbcomdghaaPFnExactPredMayx11
import Derived.Test.YtlioghbcomdghaaPFnExactPredMayx12
import Derived.Test.YtlioghbcomdghaaPFnExactPredMayx13
namespace Go.Proofs.Ytlioghbcomdghaa.PFnExactPredMay
open Go.RowKit Go.Proofs.YtlioghbcomdghaaW.PrintWords Go.Proofs.YtlioghbcomdghaaW.PrintLast Go.Proofs.YtlioghbcomdghaaW.PrintMore Go.Proofs.YtlioghbcomdghaaW.PrintMore2
attribute [local go_sem] max2_int min2_int max_two min_two max_three min_three max_four min_four   -- for this text's walks alone
set_option linter.unusedVariables false
set_option linter.unusedSimpArgs false

end Go.Proofs.Ytlioghbcomdghaa.PFnExactPredMay
