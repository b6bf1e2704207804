/- The machine's side of FnExactConfigOk, written by wip/tools/hyb.py of this repo: each Go function as a plain Lean function, and the proof that the call comes to just its answer. No condition. -/
import Derived.Test.YtnfamhegbfjggaaPFnExactConfigOkx0
import Derived.Test.YtnfamhegbfjggaaPFnExactConfigOkx1
import Derived.Test.YtnfamhegbfjggaaPFnExactConfigOkx2
import Derived.Test.YtnfamhegbfjggaaPFnExactConfigOkx3
import Derived.Test.YtnfamhegbfjggaaPFnExactConfigOkx4
import Derived.Test.YtnfamhegbfjggaaPFnExactConfigOkx5
import Derived.Test.YtnfamhegbfjggaaPFnExactConfigOkx6
import Derived.Test.YtnfamhegbfjggaaPFnExactConfigOkx7
import Derived.Test.YtnfamhegbfjggaaPFnExactConfigOkx8
import Derived.Test.YtnfamhegbfjggaaPFnExactConfigOkx9
import Derived.Test.YtnfamhegbfjggaaPFnExactConfigOkx10
namespace Go.Proofs.Ytnfamhegbfjggaa.PFnExactConfigOk
open Go.RowKit Go.Proofs.YtnfamhegbfjggaaW.PrintWords Go.Proofs.YtnfamhegbfjggaaW.PrintLast Go.Proofs.YtnfamhegbfjggaaW.PrintMore
attribute [local go_sem] max2_int min2_int max_two min_two max_three min_three max_four min_four   -- for this text's walks alone
set_option linter.unusedVariables false
set_option linter.unusedSimpArgs false

end Go.Proofs.Ytnfamhegbfjggaa.PFnExactConfigOk
