/- The machine's side of FnTreeParts, written by wip/tools/hyb.py of this repo: each Go function as a plain Lean function, and the proof that the call comes to just its answer. No condition. -/
import Derived.Test.YtnfamhegbfjggaaPFnTreePartsx0
import Derived.Test.YtnfamhegbfjggaaPFnTreePartsx1
import Derived.Test.YtnfamhegbfjggaaPFnTreePartsx2
import Derived.Test.YtnfamhegbfjggaaPFnTreePartsx3
import Derived.Test.YtnfamhegbfjggaaPFnTreePartsx4
import Derived.Test.YtnfamhegbfjggaaPFnTreePartsx5
import Derived.Test.YtnfamhegbfjggaaPFnTreePartsx6
import Derived.Test.YtnfamhegbfjggaaPFnTreePartsx7
import Derived.Test.YtnfamhegbfjggaaPFnTreePartsx8
import Derived.Test.YtnfamhegbfjggaaPFnTreePartsx9
namespace Go.Proofs.Ytnfamhegbfjggaa.PFnTreeParts
open Go.RowKit Go.Proofs.YtnfamhegbfjggaaW.PrintWords Go.Proofs.YtnfamhegbfjggaaW.PrintLast Go.Proofs.YtnfamhegbfjggaaW.PrintMore Go.Proofs.YtnfamhegbfjggaaW.PrintMore2
attribute [local go_sem] max2_int min2_int max_two min_two max_three min_three max_four min_four   -- for this text's walks alone
set_option linter.unusedVariables false
set_option linter.unusedSimpArgs false

end Go.Proofs.Ytnfamhegbfjggaa.PFnTreeParts
