/- The machine's side of FnExactMetaOk, written by wip/tools/hyb.py of this repo: each Go function as a plain Lean function, and the proof that the call comes to just its answer. No condition. -/
import Derived.Test.YtnfamhegbfjggaaPFnExactMetaOkx0
import Derived.Test.YtnfamhegbfjggaaPFnExactMetaOkx1
import Derived.Test.YtnfamhegbfjggaaPFnExactMetaOkx2
import Derived.Test.YtnfamhegbfjggaaPFnExactMetaOkx3
import Derived.Test.YtnfamhegbfjggaaPFnExactMetaOkx4
import Derived.Test.YtnfamhegbfjggaaPFnExactMetaOkx5
import Derived.Test.YtnfamhegbfjggaaPFnExactMetaOkx6
import Derived.Test.YtnfamhegbfjggaaPFnExactMetaOkx7
import Derived.Test.YtnfamhegbfjggaaPFnExactMetaOkx8
import Derived.Test.YtnfamhegbfjggaaPFnExactMetaOkx9
import Derived.Test.YtnfamhegbfjggaaPFnExactMetaOkx10
import Derived.Test.YtnfamhegbfjggaaPFnExactMetaOkx11
import Derived.Test.YtnfamhegbfjggaaPFnExactMetaOkx12
import Derived.Test.YtnfamhegbfjggaaPFnExactMetaOkx13
namespace Go.Proofs.Ytnfamhegbfjggaa.PFnExactMetaOk
open Go.RowKit Go.Proofs.YtnfamhegbfjggaaW.PrintWords Go.Proofs.YtnfamhegbfjggaaW.PrintLast Go.Proofs.YtnfamhegbfjggaaW.PrintMore Go.Proofs.YtnfamhegbfjggaaW.PrintMore2
attribute [local go_sem] max2_int min2_int max_two min_two max_three min_three max_four min_four   -- for this text's walks alone
set_option linter.unusedVariables false
set_option linter.unusedSimpArgs false

end Go.Proofs.Ytnfamhegbfjggaa.PFnExactMetaOk
