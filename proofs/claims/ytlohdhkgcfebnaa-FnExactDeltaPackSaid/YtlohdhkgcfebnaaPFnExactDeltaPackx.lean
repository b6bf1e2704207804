/- The machine's side of FnExactDeltaPack, written by wip/tools/hyb.py of this repo: each Go function as a plain Lean function, and the proof that the call comes to just its answer. No condition. -/
import Derived.Test.YtlohdhkgcfebnaaPFnExactDeltaPackx0
import Derived.Test.YtlohdhkgcfebnaaPFnExactDeltaPackx1
import Derived.Test.YtlohdhkgcfebnaaPFnExactDeltaPackx2
import Derived.Test.YtlohdhkgcfebnaaPFnExactDeltaPackx3
import Derived.Test.YtlohdhkgcfebnaaPFnExactDeltaPackx4
import Derived.Test.YtlohdhkgcfebnaaPFnExactDeltaPackx5
import Derived.Test.YtlohdhkgcfebnaaPFnExactDeltaPackx6
import Derived.Test.YtlohdhkgcfebnaaPFnExactDeltaPackx7
import Derived.Test.YtlohdhkgcfebnaaPFnExactDeltaPackx8
namespace Go.Proofs.Ytlohdhkgcfebnaa.PFnExactDeltaPack
open Go.RowKit Go.Proofs.YtlohdhkgcfebnaaW.PrintWords Go.Proofs.YtlohdhkgcfebnaaW.PrintLast Go.Proofs.YtlohdhkgcfebnaaW.PrintMore
attribute [local go_sem] max2_int min2_int max_two min_two max_three min_three max_four min_four   -- for this text's walks alone
set_option linter.unusedVariables false
set_option linter.unusedSimpArgs false

end Go.Proofs.Ytlohdhkgcfebnaa.PFnExactDeltaPack
