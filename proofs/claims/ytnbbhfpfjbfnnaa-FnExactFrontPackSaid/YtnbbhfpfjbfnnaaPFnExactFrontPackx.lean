/- The machine's side of FnExactFrontPack, written by wip/tools/hyb.py of this repo: each Go function as a plain Lean function, and the proof that the call comes to just its answer. No condition. -/
import Derived.Test.YtnbbhfpfjbfnnaaPFnExactFrontPackx0
import Derived.Test.YtnbbhfpfjbfnnaaPFnExactFrontPackx1
import Derived.Test.YtnbbhfpfjbfnnaaPFnExactFrontPackx2
import Derived.Test.YtnbbhfpfjbfnnaaPFnExactFrontPackx3
import Derived.Test.YtnbbhfpfjbfnnaaPFnExactFrontPackx4
import Derived.Test.YtnbbhfpfjbfnnaaPFnExactFrontPackx5
import Derived.Test.YtnbbhfpfjbfnnaaPFnExactFrontPackx6
import Derived.Test.YtnbbhfpfjbfnnaaPFnExactFrontPackx7
import Derived.Test.YtnbbhfpfjbfnnaaPFnExactFrontPackx8
import Derived.Test.YtnbbhfpfjbfnnaaPFnExactFrontPackx9
import Derived.Test.YtnbbhfpfjbfnnaaPFnExactFrontPackx10
import Derived.Test.YtnbbhfpfjbfnnaaPFnExactFrontPackx11
namespace Go.Proofs.Ytnbbhfpfjbfnnaa.PFnExactFrontPack
open Go.RowKit Go.Proofs.YtnbbhfpfjbfnnaaW.PrintWords Go.Proofs.YtnbbhfpfjbfnnaaW.PrintLast Go.Proofs.YtnbbhfpfjbfnnaaW.PrintMore Go.Proofs.YtnbbhfpfjbfnnaaW.PrintMore2
attribute [local go_sem] max2_int min2_int max_two min_two max_three min_three max_four min_four   -- for this text's walks alone
set_option linter.unusedVariables false
set_option linter.unusedSimpArgs false

end Go.Proofs.Ytnbbhfpfjbfnnaa.PFnExactFrontPack
