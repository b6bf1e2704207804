/- The machine's side of FnExactTreeNumOf, written by wip/tools/hyb.py of this repo: each Go function as a plain Lean function, and the proof that the call comes to just its answer. No condition. -/
import Derived.Test.YthkkglbimapmeaaPFnExactTreeNumOfx0
import Derived.Test.YthkkglbimapmeaaPFnExactTreeNumOfx1
import Derived.Test.YthkkglbimapmeaaPFnExactTreeNumOfx2
import Derived.Test.YthkkglbimapmeaaPFnExactTreeNumOfx3
import Derived.Test.YthkkglbimapmeaaPFnExactTreeNumOfx4
import Derived.Test.YthkkglbimapmeaaPFnExactTreeNumOfx5
import Derived.Test.YthkkglbimapmeaaPFnExactTreeNumOfx6
import Derived.Test.YthkkglbimapmeaaPFnExactTreeNumOfx7
import Derived.Test.YthkkglbimapmeaaPFnExactTreeNumOfx8
namespace Go.Proofs.Ythkkglbimapmeaa.PFnExactTreeNumOf
open Go.RowKit Go.Proofs.YthkkglbimapmeaaW.PrintWords Go.Proofs.YthkkglbimapmeaaW.PrintLast Go.Proofs.YthkkglbimapmeaaW.PrintMore Go.Proofs.YthkkglbimapmeaaW.PrintMore2
attribute [local go_sem] max2_int min2_int max_two min_two max_three min_three max_four min_four   -- for this text's walks alone
set_option linter.unusedVariables false
set_option linter.unusedSimpArgs false

end Go.Proofs.Ythkkglbimapmeaa.PFnExactTreeNumOf
