/- The machine's side of FnExactRecOk, written by wip/tools/hyb.py of this repo: each Go function as a plain Lean function, and the proof that the call comes to just its answer. No condition. -/
import Derived.Test.YtfaaoljihmlbmaaPFnExactRecOkx0
import Derived.Test.YtfaaoljihmlbmaaPFnExactRecOkx1
import Derived.Test.YtfaaoljihmlbmaaPFnExactRecOkx2
import Derived.Test.YtfaaoljihmlbmaaPFnExactRecOkx3
import Derived.Test.YtfaaoljihmlbmaaPFnExactRecOkx4
import Derived.Test.YtfaaoljihmlbmaaPFnExactRecOkx5
import Derived.Test.YtfaaoljihmlbmaaPFnExactRecOkx6
import Derived.Test.YtfaaoljihmlbmaaPFnExactRecOkx7
import Derived.Test.YtfaaoljihmlbmaaPFnExactRecOkx8
namespace Go.Proofs.Ytfaaoljihmlbmaa.PFnExactRecOk
open Go.RowKit Go.Proofs.YtfaaoljihmlbmaaW.PrintWords Go.Proofs.YtfaaoljihmlbmaaW.PrintLast Go.Proofs.YtfaaoljihmlbmaaW.PrintMore Go.Proofs.YtfaaoljihmlbmaaW.PrintMore2
attribute [local go_sem] max2_int min2_int max_two min_two max_three min_three max_four min_four   -- for this text's walks alone
set_option linter.unusedVariables false
set_option linter.unusedSimpArgs false

end Go.Proofs.Ytfaaoljihmlbmaa.PFnExactRecOk
