/- The machine's side of FnExactLengthPack, written by wip/tools/hyb.py of this repo: each Go function as a plain Lean function, and the proof that the call comes to just its answer. No condition. -/
import Derived.Test.YtnfamhegbfjggaaPFnExactLengthPackx0
import Derived.Test.YtnfamhegbfjggaaPFnExactLengthPackx1
import Derived.Test.YtnfamhegbfjggaaPFnExactLengthPackx2
import Derived.Test.YtnfamhegbfjggaaPFnExactLengthPackx3
import Derived.Test.YtnfamhegbfjggaaPFnExactLengthPackx4
import Derived.Test.YtnfamhegbfjggaaPFnExactLengthPackx5
import Derived.Test.YtnfamhegbfjggaaPFnExactLengthPackx6
import Derived.Test.YtnfamhegbfjggaaPFnExactLengthPackx7
import Derived.Test.YtnfamhegbfjggaaPFnExactLengthPackx8
import Derived.Test.YtnfamhegbfjggaaPFnExactLengthPackx9
import Derived.Test.YtnfamhegbfjggaaPFnExactLengthPackx10
import Derived.Test.YtnfamhegbfjggaaPFnExactLengthPackx11
namespace Go.Proofs.Ytnfamhegbfjggaa.PFnExactLengthPack
open Go.RowKit Go.Proofs.YtnfamhegbfjggaaW.PrintWords Go.Proofs.YtnfamhegbfjggaaW.PrintLast Go.Proofs.YtnfamhegbfjggaaW.PrintMore
attribute [local go_sem] max2_int min2_int max_two min_two max_three min_three max_four min_four   -- for this text's walks alone
set_option linter.unusedVariables false
set_option linter.unusedSimpArgs false

end Go.Proofs.Ytnfamhegbfjggaa.PFnExactLengthPack
