/- The machine's side of FnExactPlacesPack, written by wip/tools/hyb.py of this repo: each Go function as a plain Lean function, and the proof that the call comes to just its answer. No condition. -/
import Derived.Test.YtnfamhegbfjggaaPFnExactPlacesPackx0
import Derived.Test.YtnfamhegbfjggaaPFnExactPlacesPackx1
import Derived.Test.YtnfamhegbfjggaaPFnExactPlacesPackx2
import Derived.Test.YtnfamhegbfjggaaPFnExactPlacesPackx3
import Derived.Test.YtnfamhegbfjggaaPFnExactPlacesPackx4
import Derived.Test.YtnfamhegbfjggaaPFnExactPlacesPackx5
import Derived.Test.YtnfamhegbfjggaaPFnExactPlacesPackx6
import Derived.Test.YtnfamhegbfjggaaPFnExactPlacesPackx7
import Derived.Test.YtnfamhegbfjggaaPFnExactPlacesPackx8
namespace Go.Proofs.Ytnfamhegbfjggaa.PFnExactPlacesPack
open Go.RowKit Go.Proofs.YtnfamhegbfjggaaW.PrintWords Go.Proofs.YtnfamhegbfjggaaW.PrintLast Go.Proofs.YtnfamhegbfjggaaW.PrintMore
attribute [local go_sem] max2_int min2_int max_two min_two max_three min_three max_four min_four   -- for this text's walks alone
set_option linter.unusedVariables false
set_option linter.unusedSimpArgs false

end Go.Proofs.Ytnfamhegbfjggaa.PFnExactPlacesPack
