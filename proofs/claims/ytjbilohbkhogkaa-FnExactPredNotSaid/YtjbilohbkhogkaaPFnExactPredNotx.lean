/- The machine's side of FnExactPredNot, written by wip/tools/hyb.py of this repo: each Go function as a plain Lean function, and the proof that the call comes to just its answer. No condition. -/
import Derived.Test.YtjbilohbkhogkaaPFnExactPredNotx0
import Derived.Test.YtjbilohbkhogkaaPFnExactPredNotx1
import Derived.Test.YtjbilohbkhogkaaPFnExactPredNotx2
import Derived.Test.YtjbilohbkhogkaaPFnExactPredNotx3
import Derived.Test.YtjbilohbkhogkaaPFnExactPredNotx4
namespace Go.Proofs.Ytjbilohbkhogkaa.PFnExactPredNot
open Go.RowKit Go.Proofs.YtjbilohbkhogkaaW.PrintWords Go.Proofs.YtjbilohbkhogkaaW.PrintLast Go.Proofs.YtjbilohbkhogkaaW.PrintMore
attribute [local go_sem] max2_int min2_int max_two min_two max_three min_three max_four min_four   -- for this text's walks alone
set_option linter.unusedVariables false
set_option linter.unusedSimpArgs false

end Go.Proofs.Ytjbilohbkhogkaa.PFnExactPredNot
