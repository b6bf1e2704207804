/- The machine's side of FnExactPredOk, written by wip/tools/hyb.py of this repo: each Go function as a plain Lean function, and the proof that the call comes to just its answer. No condition. -/
import Derived.Test.YtnbbhfpfjbfnnaaPFnExactPredOkx0
import Derived.Test.YtnbbhfpfjbfnnaaPFnExactPredOkx1
import Derived.Test.YtnbbhfpfjbfnnaaPFnExactPredOkx2
import Derived.Test.YtnbbhfpfjbfnnaaPFnExactPredOkx3
import Derived.Test.YtnbbhfpfjbfnnaaPFnExactPredOkx4
import Derived.Test.YtnbbhfpfjbfnnaaPFnExactPredOkx5
import Derived.Test.YtnbbhfpfjbfnnaaPFnExactPredOkx6
import Derived.Test.YtnbbhfpfjbfnnaaPFnExactPredOkx7
import Derived.Test.YtnbbhfpfjbfnnaaPFnExactPredOkx8
import Derived.Test.YtnbbhfpfjbfnnaaPFnExactPredOkx9
import Derived.Test.YtnbbhfpfjbfnnaaPFnExactPredOkx10
import Derived.Test.YtnbbhfpfjbfnnaaPFnExactPredOkx11
import Derived.Test.YtnbbhfpfjbfnnaaPFnExactPredOkx12
import Derived.Test.YtnbbhfpfjbfnnaaPFnExactPredOkx13
import Derived.Test.YtnbbhfpfjbfnnaaPFnExactPredOkx14
import Derived.Test.YtnbbhfpfjbfnnaaPFnExactPredOkx15
namespace Go.Proofs.Ytnbbhfpfjbfnnaa.PFnExactPredOk
open Go.RowKit Go.Proofs.YtnbbhfpfjbfnnaaW.PrintWords Go.Proofs.YtnbbhfpfjbfnnaaW.PrintLast Go.Proofs.YtnbbhfpfjbfnnaaW.PrintMore Go.Proofs.YtnbbhfpfjbfnnaaW.PrintMore2
attribute [local go_sem] max2_int min2_int max_two min_two max_three min_three max_four min_four   -- for this text's walks alone
set_option linter.unusedVariables false
set_option linter.unusedSimpArgs false

end Go.Proofs.Ytnbbhfpfjbfnnaa.PFnExactPredOk
