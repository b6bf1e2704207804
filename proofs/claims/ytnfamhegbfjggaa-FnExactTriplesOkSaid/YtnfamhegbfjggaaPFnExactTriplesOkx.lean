/- The machine's side of FnExactTriplesOk, written by wip/tools/hyb.py of this repo: each Go function as a plain Lean function, and the proof that the call comes to just its answer. No condition. -/
import Derived.Test.YtnfamhegbfjggaaPFnExactTriplesOkx0
import Derived.Test.YtnfamhegbfjggaaPFnExactTriplesOkx1
import Derived.Test.YtnfamhegbfjggaaPFnExactTriplesOkx2
import Derived.Test.YtnfamhegbfjggaaPFnExactTriplesOkx3
import Derived.Test.YtnfamhegbfjggaaPFnExactTriplesOkx4
import Derived.Test.YtnfamhegbfjggaaPFnExactTriplesOkx5
import Derived.Test.YtnfamhegbfjggaaPFnExactTriplesOkx6
import Derived.Test.YtnfamhegbfjggaaPFnExactTriplesOkx7
import Derived.Test.YtnfamhegbfjggaaPFnExactTriplesOkx8
import Derived.Test.YtnfamhegbfjggaaPFnExactTriplesOkx9
import Derived.Test.YtnfamhegbfjggaaPFnExactTriplesOkx10
import Derived.Test.YtnfamhegbfjggaaPFnExactTriplesOkx11
namespace Go.Proofs.Ytnfamhegbfjggaa.PFnExactTriplesOk
open Go.RowKit Go.Proofs.YtnfamhegbfjggaaW.PrintWords Go.Proofs.YtnfamhegbfjggaaW.PrintLast Go.Proofs.YtnfamhegbfjggaaW.PrintMore
attribute [local go_sem] max2_int min2_int max_two min_two max_three min_three max_four min_four   -- for this text's walks alone
set_option linter.unusedVariables false
set_option linter.unusedSimpArgs false

end Go.Proofs.Ytnfamhegbfjggaa.PFnExactTriplesOk
