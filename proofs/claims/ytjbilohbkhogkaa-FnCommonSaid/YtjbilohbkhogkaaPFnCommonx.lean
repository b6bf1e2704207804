/- The machine's side of FnCommon, written by wip/tools/hyb.py of this repo: each Go function as a plain Lean function, and the proof that the call comes to just its answer. No condition. -/
import Derived.Test.YtjbilohbkhogkaaPFnCommonx0
import Derived.Test.YtjbilohbkhogkaaPFnCommonx1
import Derived.Test.YtjbilohbkhogkaaPFnCommonx2
namespace Go.Proofs.Ytjbilohbkhogkaa.PFnCommon
open Go.RowKit Go.Proofs.YtjbilohbkhogkaaW.PrintWords Go.Proofs.YtjbilohbkhogkaaW.PrintLast Go.Proofs.YtjbilohbkhogkaaW.PrintMore
attribute [local go_sem] max2_int min2_int max_two min_two max_three min_three max_four min_four   -- for this text's walks alone
set_option linter.unusedVariables false
set_option linter.unusedSimpArgs false

end Go.Proofs.Ytjbilohbkhogkaa.PFnCommon
