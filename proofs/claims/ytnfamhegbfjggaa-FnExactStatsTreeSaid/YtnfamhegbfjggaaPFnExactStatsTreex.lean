/- The machine's side of FnExactStatsTree, written by wip/tools/hyb.py of this repo: each Go function as a plain Lean function, and the proof that the call comes to just its answer. No condition. -/
import Derived.Test.YtnfamhegbfjggaaPFnExactStatsTreex0
import Derived.Test.YtnfamhegbfjggaaPFnExactStatsTreex1
import Derived.Test.YtnfamhegbfjggaaPFnExactStatsTreex2
import Derived.Test.YtnfamhegbfjggaaPFnExactStatsTreex3
import Derived.Test.YtnfamhegbfjggaaPFnExactStatsTreex4
import Derived.Test.YtnfamhegbfjggaaPFnExactStatsTreex5
import Derived.Test.YtnfamhegbfjggaaPFnExactStatsTreex6
import Derived.Test.YtnfamhegbfjggaaPFnExactStatsTreex7
import Derived.Test.YtnfamhegbfjggaaPFnExactStatsTreex8
import Derived.Test.YtnfamhegbfjggaaPFnExactStatsTreex9
import Derived.Test.YtnfamhegbfjggaaPFnExactStatsTreex10
import Derived.Test.YtnfamhegbfjggaaPFnExactStatsTreex11
import Derived.Test.YtnfamhegbfjggaaPFnExactStatsTreex12
import Derived.Test.YtnfamhegbfjggaaPFnExactStatsTreex13
namespace Go.Proofs.Ytnfamhegbfjggaa.PFnExactStatsTree
open Go.RowKit Go.Proofs.YtnfamhegbfjggaaW.PrintWords Go.Proofs.YtnfamhegbfjggaaW.PrintLast Go.Proofs.YtnfamhegbfjggaaW.PrintMore Go.Proofs.YtnfamhegbfjggaaW.PrintMore2
attribute [local go_sem] max2_int min2_int max_two min_two max_three min_three max_four min_four   -- for this text's walks alone
set_option linter.unusedVariables false
set_option linter.unusedSimpArgs false

end Go.Proofs.Ytnfamhegbfjggaa.PFnExactStatsTree
